/-
  From simplex to simplex: each is nearer than those before, so they come to an end. The walks of package gjk: fine, most, and the closure of walk. The walks of package gjk: walk. The walks of package gjk: found, Near, Steps. The walks of package gjk: Less. The walks of package gjk: Apart, Meets; of the law: same, choices, box, awake. The walks of the law: box, awake.
-/
import Derived.Test.YtomdahjakkifbaaPf

/-
  From simplex to simplex: each is nearer than those before, so they come to an end.
-/
namespace Go.Proofs.Ytomdahjakkifbaa
open Go Go.NP Go.RowKit Go.Proofs
set_option maxRecDepth 100000

/-! ## Nearer -/
theorem not_in_of_past {S : List Pt} {p : Pt} (hS : Good S) (h : dotS (nI S) p * dI S < sqS (nI S)) : p ∉ S := fun hp => by
  have := nI_crit hS.ne hS.le p hp; omega
theorem three_of_past {S : List Pt} {p : Pt} (hS : Good S) (h : dotS (nI S) p * dI S < sqS (nI S)) : S.length ≤ 3 := by
  refine Classical.byContradiction fun h3 => ?_
  rw [four_zero hS.ai (by have := hS.le; omega)] at h
  simp [sqS, dotS] at h
/-- A point between the nearest one of a simplex and one that is past it is nearer. -/
theorem between {S : List Pt} {p : Pt} (hS : Good S) (hlt : dotS (nI S) p * dI S < sqS (nI S)) :
    ∃ u : List Int, u.length = (p :: S).length ∧ (∀ x ∈ u, 0 ≤ x) ∧ 0 < tot u ∧ sqS (comb u (p :: S)) * (dI S * dI S) < sqS (nI S) * (tot u * tot u) := by
  have hd := hS.dpos
  have hw := wI_len (nz_of_len hS.ne)
  let Mm := dI S * dI S * sqS p.sp
  have hM : 0 ≤ Mm := Int.mul_nonneg (Int.le_of_lt (Int.mul_pos hd hd)) (sqS_nn _)
  have s1 : tot (mix Mm 0 (wI S) (wI S)) = Mm * dI S := by rw [mix_tot _ _ _ _ rfl, wI_tot]; omega
  have s2 : comb (mix Mm 0 (wI S) (wI S)) S = ⟨Mm * (nI S).x, Mm * (nI S).y, Mm * (nI S).z⟩ := by rw [mix_comb _ _ _ _ _ rfl hw]; simp [nI]
  have ml := mix_len Mm 0 (wI S) (wI S) rfl
  have hMd := Int.mul_nonneg hM (Int.le_of_lt hd)
  have ht' : tot (dI S :: mix Mm 0 (wI S) (wI S)) = (Mm + 1) * dI S := by simp only [tot, s1]; grind
  have hc' : comb (dI S :: mix Mm 0 (wI S) (wI S)) (p :: S) = ⟨Mm * (nI S).x + dI S * p.sp.x, Mm * (nI S).y + dI S * p.sp.y, Mm * (nI S).z + dI S * p.sp.z⟩ := by
    simp only [comb, s2, addW]; rfl
  refine ⟨dI S :: mix Mm 0 (wI S) (wI S), by simp [ml, hw], fun x hx => ?_, by simp only [tot, s1]; omega, ?_⟩
  · rcases List.mem_cons.1 hx with rfl | hx
    · exact Int.le_of_lt hd
    · obtain ⟨i, y, z, h1, h2, rfl⟩ := mix_mem rfl hx
      have := hS.pos y (List.mem_of_getElem? h1)
      have := Int.mul_nonneg hM (Int.le_of_lt this)
      omega
  · rw [ht', hc', sq_mix]
    have e1 : dotV p.sp (nI S) = dotS (nI S) p := by simp only [dotV, dotS, Pt.sp]; grind
    rw [e1]
    have hNpos : 0 < sqS (nI S) := by
      rcases Int.lt_or_eq_of_le (sqS_nn (nI S)) with h | h
      · exact h
      · have := sqS_zero h.symm
        rw [this] at hlt; simp [dotS, sqS] at hlt
    have hx : Mm * Mm * sqS (nI S) + 2 * (dI S * Mm * dotS (nI S) p) + dI S * dI S * sqS p.sp < sqS (nI S) * ((Mm + 1) * (Mm + 1)) := by
      have g1 : 0 ≤ Mm * (sqS (nI S) - dotS (nI S) p * dI S - 1) := Int.mul_nonneg hM (by omega)
      have e : dI S * dI S * sqS p.sp = Mm := rfl
      rw [e]
      have : sqS (nI S) * ((Mm + 1) * (Mm + 1)) - (Mm * Mm * sqS (nI S) + 2 * (dI S * Mm * dotS (nI S) p) + Mm) = 2 * (Mm * (sqS (nI S) - dotS (nI S) p * dI S - 1)) + Mm + sqS (nI S) := by grind
      omega
    have := Int.mul_lt_mul_of_pos_right hx (Int.mul_pos hd hd)
    have e : sqS (nI S) * ((Mm + 1) * dI S * ((Mm + 1) * dI S)) = sqS (nI S) * ((Mm + 1) * (Mm + 1)) * (dI S * dI S) := by grind
    omega
/-- Nothing of a body is nearer than that which nothing is past. -/
theorem ahead_min {T : List Pt} {N : Sp} {d : Int} (_hd : 0 < d) (h : Ahead T N d) {u : List Int} (hu : u.length = T.length) (h0 : ∀ x ∈ u, 0 ≤ x) : sqS N * (tot u * tot u) ≤ sqS (comb u T) * (d * d) := by
  have k := comb_ge (v := N) (a := d) (b := sqS N) hu h0 h
  have ht := tot_nn h0
  have hs := sqS_nn ⟨d * (comb u T).x + -tot u * N.x, d * (comb u T).y + -tot u * N.y, d * (comb u T).z + -tot u * N.z⟩
  rw [sq_mix (comb u T) N (-tot u) d] at hs
  have k2 := Int.mul_le_mul_of_nonneg_left k ht
  have e : d * d * sqS (comb u T) + 2 * (-tot u * d * dotV N (comb u T)) + -tot u * -tot u * sqS N = sqS (comb u T) * (d * d) - 2 * (tot u * (dotV N (comb u T) * d)) + tot u * (sqS N * tot u) := by grind
  have e2 : sqS N * (tot u * tot u) = tot u * (sqS N * tot u) := by grind
  omega

/-! ## How many there are -/
def chs : Nat → Nat → List (List Int)
  | 0, _ => [[]]
  | _ + 1, 0 => []
  | k + 1, n + 1 => chs (k + 1) n ++ (chs k n).map (· ++ [(n : Int)])
theorem mem_chs : ∀ (n k : Nat) (l : List Int), l.length = k → l.Pairwise (· < ·) → (∀ x ∈ l, 0 ≤ x ∧ x < n) → l ∈ chs k n
  | n, 0, l, hl, _, _ => by rw [List.length_eq_zero_iff.1 hl]; cases n <;> simp [chs]
  | 0, k + 1, l, hl, _, hx => by
    cases l with
    | nil => simp at hl
    | cons a l => have := hx a (by simp); omega
  | n + 1, k + 1, l, hl, hp, hx => by
    have hne : l ≠ [] := by rintro rfl; simp at hl
    have hsp := List.dropLast_concat_getLast hne
    have hlen : l.dropLast.length = k := by rw [List.length_dropLast]; omega
    rw [← hsp] at hp
    rw [List.pairwise_append] at hp
    obtain ⟨hp1, -, hp2⟩ := hp
    have hlast := hx _ (List.getLast_mem hne)
    have hdl : ∀ x ∈ l.dropLast, 0 ≤ x ∧ x < l.getLast hne := fun x h => ⟨(hx x (List.dropLast_subset _ h)).1, hp2 x h _ (by simp)⟩
    simp only [chs, List.mem_append, List.mem_map]
    by_cases e : l.getLast hne = n
    · right
      refine ⟨l.dropLast, mem_chs n k _ hlen hp1 fun x h => ?_, by rw [← e]; exact hsp⟩
      have := hdl x h; omega
    · left
      refine mem_chs n (k + 1) l hl ?_ fun x h => ?_
      · rw [← hsp, List.pairwise_append]; exact ⟨hp1, by simp, hp2⟩
      · rw [← hsp] at h
        rcases List.mem_append.1 h with h | h
        · have := hdl x h; omega
        · simp at h; omega
def cn (k n : Nat) : Int := (chs k n).length
theorem cn_succ (k n : Nat) : cn (k + 1) (n + 1) = cn (k + 1) n + cn k n := by
  simp [cn, chs]
theorem cn0 (n : Nat) : cn 0 n = 1 := by cases n <;> rfl
theorem cnz (k : Nat) : cn (k + 1) 0 = 0 := rfl
theorem cn1 : ∀ n : Nat, cn 1 n = n
  | 0 => rfl
  | n + 1 => by rw [cn_succ, cn1 n, cn0]; omega
theorem cn2 : ∀ n : Nat, 2 * cn 2 n = n * (n - 1)
  | 0 => rfl
  | n + 1 => by
    have := cn2 n
    have := cn1 n
    rw [cn_succ]; push_cast; grind
theorem cn3 : ∀ n : Nat, 3 * cn 3 n = cn 2 n * (n - 2)
  | 0 => rfl
  | n + 1 => by
    have := cn3 n
    have := cn2 n
    have := cn1 n
    rw [cn_succ, cn_succ]; push_cast; grind
theorem cn4 : ∀ n : Nat, 4 * cn 4 n = cn 3 n * (n - 3)
  | 0 => rfl
  | n + 1 => by
    have := cn4 n
    have := cn3 n
    have := cn2 n
    have := cn1 n
    rw [cn_succ, cn_succ]; push_cast; grind
def mostI (n : Nat) : Int := n + cn 2 n + cn 3 n + cn 4 n
theorem length_le_of {α : Type} [DecidableEq α] : ∀ {l m : List α}, l.Nodup → (∀ x ∈ l, x ∈ m) → l.length ≤ m.length
  | [], _, _, _ => Nat.zero_le _
  | a :: l, m, hn, hs => by
    obtain ⟨ha, hn'⟩ := List.nodup_cons.1 hn
    have hm := hs a (by simp)
    have := length_le_of (l := l) (m := m.erase a) hn' fun x hx => (List.mem_erase_of_ne (by rintro rfl; exact ha hx)).2 (hs x (by simp [hx]))
    rw [List.length_erase_of_mem hm] at this
    have := List.length_pos_of_mem hm
    simp only [List.length_cons]; omega
/-- Places that are a simplex of some points. -/
structure Own (ps : List Pt) (o : List Int) : Prop where
  up : o.Pairwise (· < ·)
  at' : ∀ k ∈ o, 0 ≤ k ∧ k < ps.length
  good : Good (sel ps o)
theorem Own.len {ps : List Pt} {o : List Int} (h : Own ps o) : 1 ≤ o.length ∧ o.length ≤ 4 := by
  have h1 := h.good.ne
  have h2 := h.good.le
  simp only [sel, List.length_map] at h1 h2
  exact ⟨h1, h2⟩
theorem seen_le {ps : List Pt} {seen : List (List Int)} (hn : seen.Nodup) (h : ∀ o ∈ seen, Own ps o) : (seen.length : Int) ≤ mostI ps.length := by
  have := length_le_of (m := chs 1 ps.length ++ (chs 2 ps.length ++ (chs 3 ps.length ++ chs 4 ps.length))) hn fun o ho => by
    have hO := h o ho
    have hl := hO.len
    have hm := mem_chs ps.length o.length o rfl hO.up hO.at'
    have : o.length = 1 ∨ o.length = 2 ∨ o.length = 3 ∨ o.length = 4 := by omega
    simp only [List.mem_append]
    rcases this with e | e | e | e <;> rw [e] at hm <;> simp [hm]
  have e := cn1 ps.length
  simp only [List.length_append] at this
  unfold mostI
  unfold cn at *
  omega

/-! ## The steps -/
/-- What a step begins with: places, and the simplices that were before. -/
structure WI (ps : List Pt) (at_ : List Int) (seen : List (List Int)) : Prop where
  up : at_.Pairwise (· < ·)
  in' : ∀ k ∈ at_, 0 ≤ k ∧ k < ps.length
  one : 1 ≤ at_.length
  four : at_.length ≤ 4
  nd : seen.Nodup
  own : ∀ o ∈ seen, Own ps o
  near : ∀ o ∈ seen, ∃ u : List Int, u.length = at_.length ∧ (∀ x ∈ u, 0 ≤ x) ∧ 0 < tot u ∧ sqS (comb u (sel ps at_)) * (dI (sel ps o) * dI (sel ps o)) < sqS (nI (sel ps o)) * (tot u * tot u)
theorem WI.begin {ps : List Pt} (h : 1 ≤ ps.length) : WI ps [0] [] :=
  ⟨by simp, by simp; omega, by simp, by simp, by simp, by simp, by simp⟩
def pickI (at_ c : List Int) : List Int := c.map fun k => at_.getD k.toNat 0
theorem sel_pick {ps : List Pt} {at_ c : List Int} (hc : ∀ k ∈ c, 0 ≤ k ∧ k < at_.length) : sel (sel ps at_) c = sel ps (pickI at_ c) := by
  simp only [sel, pickI, List.map_map]
  refine List.map_congr_left fun k hk => ?_
  have h := hc k hk
  have hk' : k.toNat < at_.length := by omega
  refine ptI_of ?_
  show (at_.map (ptI ps))[k.toNat]? = _
  rw [List.getElem?_map, List.getElem?_eq_getElem hk']
  simp [List.getD_eq_getElem?_getD, hk']
theorem pickI_up {at_ : List Int} (hu : at_.Pairwise (· < ·)) : ∀ {c : List Int}, c.Pairwise (· < ·) → (∀ k ∈ c, 0 ≤ k ∧ k < at_.length) → (pickI at_ c).Pairwise (· < ·) := by
  intro c hc hk
  unfold pickI
  rw [List.pairwise_map]
  refine hc.imp_of_mem fun {a b} ha hb hab => ?_
  have h1 := hk a ha
  have h2 := hk b hb
  have := List.pairwise_iff_getElem.1 hu a.toNat b.toNat (by omega) (by omega) (by omega)
  simpa [List.getD_eq_getElem?_getD, show a.toNat < at_.length by omega, show b.toNat < at_.length by omega] using this
theorem pickI_in {ps : List Pt} {at_ c : List Int} (hi : ∀ k ∈ at_, 0 ≤ k ∧ k < ps.length) (hk : ∀ k ∈ c, 0 ≤ k ∧ k < at_.length) : ∀ k ∈ pickI at_ c, 0 ≤ k ∧ k < ps.length := by
  intro m hm
  obtain ⟨k, hkc, rfl⟩ := List.mem_map.1 hm
  have h := hk k hkc
  refine hi _ ?_
  have hl : k.toNat < at_.length := by omega
  simp [List.getD_eq_getElem?_getD, hl]
/-- The simplex of a step. -/
theorem WI.step {ps : List Pt} {at_ c : List Int} {seen : List (List Int)} (h : WI ps at_ seen) (hc : c ∈ choicesI (sel ps at_).length) (ht : testB (sel ps at_) c = true) :
    Own ps (pickI at_ c) ∧ sel (sel ps at_) c = sel ps (pickI at_ c) ∧ (pickI at_ c :: seen).Nodup ∧
    (∀ o ∈ seen, sqS (nI (sel ps (pickI at_ c))) * (dI (sel ps o) * dI (sel ps o)) < sqS (nI (sel ps o)) * (dI (sel ps (pickI at_ c)) * dI (sel ps (pickI at_ c)))) := by
  have hsl : (sel ps at_).length = at_.length := List.length_map _
  have h1 := h.one
  have h4 := h.four
  obtain ⟨c1, c4, ck, cup⟩ := choice_len (n4 (by omega) (by omega)) hc
  rw [hsl] at ck
  have e := sel_pick (ps := ps) ck
  obtain ⟨hg, ha⟩ := (testB_iff c1 c4).1 ht
  rw [e] at hg ha
  have hO : Own ps (pickI at_ c) := ⟨pickI_up h.up cup ck, pickI_in h.in' ck, hg⟩
  have hlt : ∀ o ∈ seen, sqS (nI (sel ps (pickI at_ c))) * (dI (sel ps o) * dI (sel ps o)) < sqS (nI (sel ps o)) * (dI (sel ps (pickI at_ c)) * dI (sel ps (pickI at_ c))) := fun o ho => by
    obtain ⟨u, u1, u2, u3, u4⟩ := h.near o ho
    have hmin := ahead_min hg.dpos ha (u := u) (by omega) u2
    have hd := hg.dpos
    have hdo := (h.own o ho).good.dpos
    exact flt_trans (Int.mul_pos u3 u3) (Int.mul_pos hd hd) (Int.le_of_lt (Int.mul_pos hdo hdo)) hmin u4
  refine ⟨hO, e, List.nodup_cons.2 ⟨fun hm => ?_, h.nd⟩, hlt⟩
  have := hlt _ hm
  omega
/-- With a point more that is past it. -/
theorem WI.next {ps : List Pt} {at_ o at2 : List Int} {seen : List (List Int)} {k : Int} (h : WI ps at_ seen) (hO : Own ps o) (hn : (o :: seen).Nodup)
    (hlt : ∀ q ∈ seen, sqS (nI (sel ps o)) * (dI (sel ps q) * dI (sel ps q)) < sqS (nI (sel ps q)) * (dI (sel ps o) * dI (sel ps o)))
    (hk : 0 ≤ k ∧ k < ps.length) (hp : dotS (nI (sel ps o)) (ptI ps k) * dI (sel ps o) < sqS (nI (sel ps o))) (hperm : at2.Perm (o ++ [k])) (hs : at2.Pairwise (· ≤ ·)) : WI ps at2 (o :: seen) := by
  have h3 := three_of_past hO.good hp
  have hnk : k ∉ o := fun hm => not_in_of_past hO.good hp (List.mem_map_of_mem hm)
  have hlen := hperm.length_eq
  have hnd : at2.Nodup := hperm.nodup_iff.2 (by
    rw [List.nodup_append]
    exact ⟨hO.up.imp (fun hab => by omega), by simp, fun a ha b hb => by simp at hb; subst hb; rintro rfl; exact hnk ha⟩)
  simp only [sel, List.length_map] at h3
  rw [List.length_append, List.length_singleton] at hlen
  have hp2 : (ptI ps k :: sel ps o).Perm (sel ps at2) := by
    have := (hperm.map (ptI ps)).symm
    rw [List.map_append] at this
    exact (List.perm_append_comm (l₁ := [ptI ps k]) (l₂ := sel ps o)).trans this
  obtain ⟨u, u1, u2, u3, u4⟩ := between hO.good hp
  obtain ⟨v, v1, v2, v3, v4⟩ := perm_weights hp2 u u1
  have hvl : v.length = at2.length := by rw [v1, sel, List.length_map]
  have hv0 : ∀ x ∈ v, 0 ≤ x := fun x hx => u2 x ((v4 x).1 hx)
  have hvp : 0 < tot v := by omega
  rw [← v3, ← v2] at u4
  refine ⟨?_, fun m hm => ?_, by omega, by omega, hn, fun q hq => ?_, fun q hq => ?_⟩
  · exact (hs.and hnd).imp fun hab => by omega
  · rcases List.mem_append.1 (hperm.mem_iff.1 hm) with h1 | h1
    · exact hO.at' m h1
    · simp at h1; subst h1; exact hk
  · rcases List.mem_cons.1 hq with rfl | hq
    · exact hO
    · exact h.own q hq
  · refine ⟨v, hvl, hv0, hvp, ?_⟩
    rcases List.mem_cons.1 hq with rfl | hq
    · exact u4
    · have hd := hO.good.dpos
      have hdq := (h.own q hq).good.dpos
      exact flt_trans (Int.mul_pos hd hd) (Int.mul_pos hvp hvp) (Int.le_of_lt (Int.mul_pos hdq hdq)) (Int.le_of_lt u4) (hlt q hq)
end Go.Proofs.Ytomdahjakkifbaa

/-
  The walks of package gjk: fine, most, and the closure of walk.
-/
namespace Go.Proofs.Ytomdahjakkifbaa
open Go Go.NP Go.RowKit Go.Proofs
set_option maxRecDepth 100000

/-- What stands against points. -/
def errG (ps : List Pt) : Int := if okPts ps then if 256 < ps.length then 3 else if ps.length = 0 then 2 else 0 else 7
theorem errG_ok {ps : List Pt} : errG ps = 0 ↔ okPts ps ∧ 1 ≤ ps.length ∧ ps.length ≤ 256 := by
  unfold errG
  split
  · rename_i h
    split
    · simp [h]; omega
    · split
      · simp [h]; omega
      · simp [h]; omega
  · rename_i h; simp [h]
theorem gjk_fine {ps : List Pt} {v : Value} (w : World) (h : PtsAt w v ps) (hlen : ps.length ≤ 9223372036854775807) :
    Calls Try.prog 29 #[v] w fun e w' => e = .returned (.int .i64 (errG ps)) ∧ Below w.heap.size w w' := by
  obtain ⟨a, c, rfl, hsl⟩ := h
  rw [List.length_map]
  refine calls_of Try.func29 rfl Try.ntmps29 rfl (St.start w) (args := [.slice a ps.length c]) ?_
  refine cw_sr ?_
  refine steps_q rfl (q_assign rfl) ?_  -- gjk.go:14
  refine steps_nil ?_
  refine cw_seq ?_
  refine cw_sr ?_
  refine steps_q rfl (q_move rfl) ?_  -- gjk.go:15
  refine steps_q rfl (q_lenSl Try.underlying22 rfl) ?_  -- gjk.go:15
  refine steps_q rfl (q_move rfl) ?_  -- gjk.go:15
  refine steps_nil ?_
  refine cw_block ?_
  -- LOOP 1 writes [4, 7, 8, 9, 10, 11, 12, 13, 14]  stores via [4]  reads [5, 6]
  refine cw_loop (S := Int) (fun s => [(0, .slice a ps.length c), (5, .slice a ps.length c), (6, .int .i64 ps.length), (7, .int .i64 s)]) (fun _ => []) (fun s => 0 ≤ s ∧ s ≤ ps.length ∧ ∀ (k : Nat) (p : Pt), ps[k]? = some p → (k : Int) < s → p.In 268435456) (fun s => (ps.length - s).toNat) 0 ⟨by omega, by omega, fun k p _ hk => by omega⟩ (subs ⟨rfl, rfl, rfl, rfl, trivial⟩) (subs trivial) ?_
  intro i ⟨hi0, hi1, hz⟩
  refine cw_sr ?_
  refine steps_q rfl (q_bin rfl rfl rfl) ?_  -- gjk.go:15
  refine steps_nil ?_
  refine cw_seq ?_
  refine cw_cond _ rfl (fun hc1 => ?_) (fun hc1 => ?_)
  · -- yes 1
    have hc : i < ps.length := of_decide_eq_true hc1
    obtain ⟨p, hp⟩ : ∃ p, ps[i.toNat]? = some p := ⟨ps[i.toNat]'(by omega), List.getElem?_eq_getElem (by omega)⟩
    have hpl : (ps.map Pt.l)[i.toNat]? = some p.l := by rw [List.getElem?_map, hp]; rfl
    obtain ⟨b, off, l, fz, rfl, hb, hpt⟩ := hsl.resolve_left (by intro h; rw [h] at hpl; simp at hpl)
    refine cw_skip ?_
    refine at_then ?_
    refine cw_seq ?_
    refine cw_block ?_
    refine cw_sr ?_
    refine steps_q rfl (q_indexSl slc22 rfl rfl hi0 hc) ?_  -- gjk.go:15
    refine steps_q rfl (q_loadAo agg38 rfl hb (by simp) (hpt _ _ hpl)) ?_  -- gjk.go:15
    refine steps_s (s_allocA 4 rfl zer38 fun b4 => ?_)  -- gjk.go:15
    refine steps_s (s_storeW 4 siz38 rfl rfl rfl rfl rfl rfl ?_)  -- gjk.go:15
    refine steps_nil ?_
    refine cw_sr ?_
    refine steps_q rfl (q_loadW 4 agg38 rfl rfl rfl) ?_  -- gjk.go:16
    refine steps_q rfl (q_pure ent14 rfl (grid_Check p)) ?_  -- gjk.go:16
    refine steps_q rfl (q_bin rfl rfl (congrArg (fun b => some (Value.bool b)) (errP_ne p))) ?_  -- gjk.go:16
    refine steps_nil ?_
    refine cw_cond _ rfl (fun hc2 => ?_) (fun hc2 => ?_)
    · -- yes 2
      have hn : ¬ p.In 268435456 := by simpa using hc2
      have e : errG ps = 7 := if_neg fun h => hn (h p (List.mem_of_getElem? hp))
      refine cw_sr ?_
      refine steps_q rfl (q_assign rfl) ?_  -- gjk.go:17
      refine steps_nil ?_
      refine cw_ret ?_
      rw [e]
      exact ret_pure rfl (rv_tmp rfl rv_nil) rfl
    · -- no 2
      have hn : p.In 268435456 := by simpa using hc2
      have hz' : ∀ (k : Nat) (q : Pt), ps[k]? = some q → (k : Int) < i + 1 → q.In 268435456 := fun k q hq hk => by
        by_cases hki : k = i.toNat
        · subst hki; rw [hp] at hq; cases hq; exact hn
        · exact hz k q hq (by omega)
      refine cw_skip ?_
      refine at_then ?_
      refine cw_region ?_
      refine steps_q rfl (q_bin rfl rfl (add64 (by omega) (by omega))) ?_  -- gjk.go:15
      refine steps_q rfl (q_move rfl) ?_  -- gjk.go:15
      refine steps_nil ?_
      exact at_round _ ⟨by omega, by omega, hz'⟩ (by omega) (subs ⟨rfl, rfl, rfl, rfl, trivial⟩) (subs trivial)
  · -- no 1
    have hc : ¬ i < ps.length := of_decide_eq_false hc1
    have hok : okPts ps := fun p hp => by
      obtain ⟨k, hk, he⟩ := List.getElem_of_mem hp
      exact hz k p (by rw [List.getElem?_eq_getElem hk, he]) (by omega)
    refine cw_exit ?_
    refine at_then ?_
    refine cw_seq ?_
    refine cw_block ?_
    refine cw_sr ?_
    refine steps_q rfl (q_move rfl) ?_  -- gjk.go:21
    refine steps_q rfl (q_lenSl Try.underlying22 rfl) ?_  -- gjk.go:21
    refine steps_q rfl (q_bin rfl rfl rfl) ?_  -- gjk.go:21
    refine steps_q rfl (q_assign rfl) ?_  -- gjk.go:21
    refine steps_nil ?_
    refine cw_cond _ rfl (fun hc3 => ?_) (fun hc3 => ?_)
    · -- yes 3
      have h3 : (ps.length : Int) > 256 := of_decide_eq_true hc3
      have e : errG ps = 3 := by unfold errG; rw [if_pos hok, if_pos (by omega)]
      refine cw_sr ?_
      refine steps_q rfl (q_assign rfl) ?_  -- gjk.go:22
      refine steps_nil ?_
      refine cw_ret ?_
      rw [e]
      exact ret_pure rfl (rv_tmp rfl rv_nil) rfl
    · -- no 3
      have h3 : ¬ (ps.length : Int) > 256 := of_decide_eq_false hc3
      refine cw_sr ?_
      refine steps_q rfl (q_move rfl) ?_  -- gjk.go:23
      refine steps_q rfl (q_lenSl Try.underlying22 rfl) ?_  -- gjk.go:23
      refine steps_q rfl (q_bin rfl rfl rfl) ?_  -- gjk.go:23
      refine steps_q rfl (q_assign rfl) ?_  -- gjk.go:23
      refine steps_nil ?_
      refine cw_cond _ rfl (fun hc4 => ?_) (fun hc4 => ?_)
      · -- yes 4
        have h4 : (ps.length : Int) = 0 := by simpa using hc4
        have e : errG ps = 2 := by unfold errG; rw [if_pos hok, if_neg (by omega), if_pos (by omega)]
        refine cw_sr ?_
        refine steps_q rfl (q_assign rfl) ?_  -- gjk.go:24
        refine steps_nil ?_
        refine cw_ret ?_
        rw [e]
        exact ret_pure rfl (rv_tmp rfl rv_nil) rfl
      · -- no 4
        have h4 : ¬ (ps.length : Int) = 0 := by simpa using hc4
        have e : errG ps = 0 := errG_ok.2 ⟨hok, by omega, by omega⟩
        refine cw_skip ?_
        refine at_then ?_
        refine cw_sr ?_
        refine steps_q rfl (q_assign rfl) ?_  -- gjk.go:26
        refine steps_nil ?_
        refine cw_ret ?_
        rw [e]
        exact ret_pure rfl (rv_tmp rfl rv_nil) rfl
theorem cn_bounds (n : Nat) (h : n ≤ 256) : 0 ≤ cn 2 n ∧ cn 2 n ≤ 65536 ∧ 0 ≤ cn 3 n ∧ cn 3 n ≤ 16777216 ∧ 0 ≤ cn 4 n ∧ cn 4 n ≤ 4294967296 := by
  have h2 := cn2 n
  have h3 := cn3 n
  have h4 := cn4 n
  have k2 : 0 ≤ cn 2 n := Int.natCast_nonneg _
  have k3 : 0 ≤ cn 3 n := Int.natCast_nonneg _
  have k4 : 0 ≤ cn 4 n := Int.natCast_nonneg _
  have b1 := mul_bd (a := n) (b := n - 1) (A := 256) (C := 256) (by omega) (by omega)
  have b2 := mul_bd (a := cn 2 n) (b := n - 2) (A := 65536) (C := 256) (by omega) (by omega)
  have b3 := mul_bd (a := cn 3 n) (b := n - 3) (A := 16777216) (C := 256) (by omega) (by omega)
  omega
theorem gjk_most {n : Nat} (h : n ≤ 256) : PureF Try.prog 53 [.int .i64 n] (.int .i64 (mostI n)) := by
  have h2 := cn2 n
  have h3 := cn3 n
  have h4 := cn4 n
  obtain ⟨a0, a1, b0, b1, c0, c1⟩ := cn_bounds n h
  have e2 : (n : Int) * (n - 1) / 2 = cn 2 n := by rw [← h2]; omega
  have e3 : cn 2 n * (n - 2) / 3 = cn 3 n := by rw [← h3]; omega
  have e4 : cn 3 n * (n - 3) / 4 = cn 4 n := by rw [← h4]; omega
  refine pure_of Try.func53 rfl Try.ntmps53 rfl fun w => ?_
  refine cw_sr ?_
  refine steps_q rfl (q_assign rfl) ?_  -- gjk.go:33
  refine steps_nil ?_
  refine cw_sr ?_
  refine steps_q rfl (q_move rfl) ?_  -- gjk.go:34
  refine steps_q rfl (q_move rfl) ?_  -- gjk.go:34
  refine steps_q rfl (q_bin rfl rfl (sub64 (by omega) (by omega))) ?_  -- gjk.go:34
  refine steps_q rfl (q_bin rfl rfl (mul64 (by omega) (by omega))) ?_  -- gjk.go:34
  refine steps_q rfl (q_bin rfl rfl (quo64 (by omega) (by omega) (by omega))) ?_  -- gjk.go:34
  rw [e2]
  refine steps_q rfl (q_assign rfl) ?_  -- gjk.go:34
  refine steps_nil ?_
  refine cw_sr ?_
  refine steps_q rfl (q_move rfl) ?_  -- gjk.go:35
  refine steps_q rfl (q_move rfl) ?_  -- gjk.go:35
  refine steps_q rfl (q_bin rfl rfl (sub64 (by omega) (by omega))) ?_  -- gjk.go:35
  refine steps_q rfl (q_bin rfl rfl (mul64 (by omega) (by omega))) ?_  -- gjk.go:35
  refine steps_q rfl (q_bin rfl rfl (quo64 (by omega) (by omega) (by omega))) ?_  -- gjk.go:35
  rw [e3]
  refine steps_q rfl (q_assign rfl) ?_  -- gjk.go:35
  refine steps_nil ?_
  refine cw_sr ?_
  refine steps_q rfl (q_move rfl) ?_  -- gjk.go:36
  refine steps_q rfl (q_move rfl) ?_  -- gjk.go:36
  refine steps_q rfl (q_bin rfl rfl (add64 (by omega) (by omega))) ?_  -- gjk.go:36
  refine steps_q rfl (q_move rfl) ?_  -- gjk.go:36
  refine steps_q rfl (q_bin rfl rfl (add64 (by omega) (by omega))) ?_  -- gjk.go:36
  refine steps_q rfl (q_move rfl) ?_  -- gjk.go:36
  refine steps_q rfl (q_move rfl) ?_  -- gjk.go:36
  refine steps_q rfl (q_bin rfl rfl (sub64 (by omega) (by omega))) ?_  -- gjk.go:36
  refine steps_q rfl (q_bin rfl rfl (mul64 (by omega) (by omega))) ?_  -- gjk.go:36
  refine steps_q rfl (q_bin rfl rfl (quo64 (by omega) (by omega) (by omega))) ?_  -- gjk.go:36
  rw [e4]
  refine steps_q rfl (q_bin rfl rfl (add64 (by omega) (by omega))) ?_  -- gjk.go:36
  refine steps_q rfl (q_assign rfl) ?_  -- gjk.go:36
  refine steps_nil ?_
  refine cw_ret ?_
  exact ret_pure rfl (rv_tmp rfl rv_nil) rfl

/-- What the closure of walk reads. -/
structure WB (w : World) (bl : Nat) (v : Value) (ps : List Pt) : Prop where
  l1 : w.heap[bl]? = some (.cells [v].toArray 22 (0, 0))
  at' : PtsAt w v ps
theorem WB.below {w w' : World} {bl : Nat} {v : Value} {ps : List Pt} (h : WB w bl v ps) (hb : Below w.heap.size w w') : WB w' bl v ps :=
  ⟨(hb.block bl (Array.getElem?_eq_some_iff.1 h.l1).1).trans h.l1, h.at'.below hb⟩
/-- The place of one that is least far along. -/
def LeastAt (n : Sp) (ps : List Pt) (k : Int) : Prop := 0 ≤ k ∧ k < ps.length ∧ ∀ p ∈ ps, dotS n (ptI ps k) ≤ dotS n p
theorem least_take {n : Sp} {ps : List Pt} {m j : Nat} {p : Pt} (hp : ps[j]? = some p) (h : ∀ q ∈ ps.take j, dotS n (ptI ps m) ≤ dotS n q) (hm : dotS n (ptI ps m) ≤ dotS n p) : ∀ q ∈ ps.take (j + 1), dotS n (ptI ps m) ≤ dotS n q :=
  pall_take hp h hm
theorem gjk_back {ps : List Pt} {w : World} {bl : Nat} {v : Value} {m : Nr} (h : WB w bl v ps) (hok : okPts ps) (h1 : 1 ≤ ps.length) (h256 : ps.length ≤ 256) (hn : m.n.In Mid) :
    Calls Try.prog 52 #[.agg m.l.toArray, .pointer (some ⟨bl, 0, none⟩)] w fun e w' => ∃ k, e = .returned (.int .i64 k) ∧ LeastAt m.n ps k ∧ Below w.heap.size w w' := by
  obtain ⟨hl, hv⟩ := h
  obtain ⟨a, c, rfl, hs⟩ := hv
  rw [List.length_map] at hl
  have p0 := ptI_get (ps := ps) (Int.le_refl 0) (by omega)
  have p0l : (ps.map Pt.l)[(0 : Int).toNat]? = some (ptI ps 0).l := by rw [List.getElem?_map, p0]; rfl
  obtain ⟨bp, off, l0, fz, rfl, hb, hpt⟩ := hs.resolve_left (by intro h; rw [h] at p0l; simp at p0l)
  refine calls_of Try.func52 rfl Try.ntmps52 rfl (St.start w) (args := [.agg m.l.toArray, .pointer (some ⟨bl, 0, none⟩)]) ?_
  refine cw_sr ?_
  refine steps_s (s_boxA 2 rfl rfl fun b2 => ?_)  -- gjk.go:41
  refine steps_q rfl (q_assign rfl) ?_  -- gjk.go:41
  refine steps_nil ?_
  refine cw_sr ?_
  refine steps_q rfl (q_build (vs := []) rfl rfl bldW0) ?_  -- gjk.go:42
  refine steps_s (s_allocA 5 rfl zer26 fun b5 => ?_)  -- gjk.go:42
  refine steps_q rfl (q_assign rfl) ?_  -- gjk.go:42
  refine steps_s (s_storeW 5 siz26 rfl rfl rfl rfl rfl rfl ?_)  -- gjk.go:42
  refine steps_nil ?_
  refine cw_seq ?_
  refine cw_sr ?_
  refine steps_q rfl (q_load1o one22 rfl hl (by simp) rfl) ?_  -- gjk.go:43
  refine steps_q rfl (q_lenSl Try.underlying22 rfl) ?_  -- gjk.go:43
  refine steps_q rfl (q_move rfl) ?_  -- gjk.go:43
  refine steps_nil ?_
  refine cw_block ?_
  -- LOOP 1 writes [4, 6, 7, 8, 13, 14, 15, 16, 17, 18, 19, 20, 21, 22, 23, 24, 25, 26, 27, 28, 29, 30, 31, 32, 33, 34, 35]  stores via [5, 7, 8]  reads [2, 5, 11, 12]
  refine cw_loop (S := Nat × Option Nat) (fun s => [(2, .pointer (some ⟨b2, 0, none⟩)), (4, .int .i64 (match s.2 with | none => -1 | some k => (k : Int))), (5, .pointer (some ⟨b5, 0, none⟩)), (11, .slice (some ⟨bp, off, none⟩) ps.length c), (12, .int .i64 ps.length), (13, .int .i64 s.1)]) (fun s => [(2, (b2, .cells m.l.toArray 31 (0, 0))), (5, (b5, .cells (Wl (match s.2 with | none => 0 | some k => dotS m.n (ptI ps k))).toArray 26 (0, 0)))]) (fun s => s.1 ≤ ps.length ∧ match s.2 with | none => s.1 = 0 | some k => k < s.1 ∧ ∀ q ∈ ps.take s.1, dotS m.n (ptI ps k) ≤ dotS m.n q) (fun s => ps.length - s.1) (0, none) ⟨by dsimp only; omega, rfl⟩ (subs ⟨rfl, rfl, rfl, rfl, rfl, rfl, trivial⟩) (subs ⟨rfl, rfl, trivial⟩) ?_
  rintro ⟨j, best⟩ ⟨j1, hbest⟩
  dsimp only at j1 hbest
  conv => enter [7]; dsimp only
  conv => enter [8]; dsimp only
  refine cw_sr ?_
  refine steps_q rfl (q_bin rfl rfl rfl) ?_  -- gjk.go:43
  refine steps_nil ?_
  refine cw_seq ?_
  refine cw_cond _ rfl (fun hc1 => ?_) (fun hc1 => ?_)
  · -- yes 1
    have hj : (j : Int) < (ps.length : Int) := of_decide_eq_true hc1
    have pj := ptI_get (ps := ps) (i := j) (by omega) hj
    have pjl : (ps.map Pt.l)[(j : Int).toNat]? = some (ptI ps j).l := by rw [List.getElem?_map, pj]; rfl
    rw [Int.toNat_natCast] at pj
    have hpin := ptI_in hok (i := j) (by omega) hj
    have hA := alFits hn (hpin.mono (show (268435456 : Int) ≤ P40 by decide)) (by decide) (by decide) (by decide)
    have hfd : ∀ {p : Pt}, p.In 268435456 → Fits (dotS m.n p) := fun hp => fits_big (bd_big (dotS_bd hn hp) (by decide))
    refine cw_skip ?_
    refine at_then ?_
    refine cw_seq ?_
    refine cw_block ?_
    refine cw_sr ?_
    refine steps_q rfl (q_move rfl) ?_  -- gjk.go:43
    refine steps_q rfl (q_indexSl slc22 rfl rfl (by omega) hj) ?_  -- gjk.go:43
    refine steps_q rfl (q_loadAo agg38 rfl hb (by simp) (hpt _ _ pjl)) ?_  -- gjk.go:43
    refine steps_s (s_allocA 7 rfl zer38 fun b7 => ?_)  -- gjk.go:43
    refine steps_q rfl (q_assign rfl) ?_  -- gjk.go:43
    refine steps_s (s_storeW 7 siz38 rfl rfl rfl rfl rfl rfl ?_)  -- gjk.go:43
    refine steps_nil ?_
    refine cw_sr ?_
    refine steps_q rfl (q_field fld31_0 rfl) ?_  -- gjk.go:44
    refine steps_q rfl (q_loadA 2 agg28 rfl rfl (nr0 m)) ?_  -- gjk.go:44
    refine steps_q rfl (q_loadW 7 agg38 rfl rfl rfl) ?_  -- gjk.go:44
    refine steps_q rfl (q_pure ent20 rfl (grid_Along hA)) ?_  -- gjk.go:44
    refine steps_q rfl (q_move rfl) ?_  -- gjk.go:44
    refine steps_q rfl (q_extract rfl rfl) ?_  -- gjk.go:44
    refine steps_q rfl (q_extract rfl rfl) ?_  -- gjk.go:44
    refine steps_s (s_allocA 8 rfl zer26 fun b8 => ?_)  -- gjk.go:44
    refine steps_s (s_storeW 8 siz26 rfl rfl rfl rfl rfl rfl ?_)  -- gjk.go:44
    refine steps_q rfl (q_assign rfl) ?_  -- gjk.go:44
    refine steps_nil ?_
    rcases best with _ | k
    · -- way 6.a
      refine cw_sr ?_
      refine steps_q rfl (q_move rfl) ?_  -- gjk.go:44
      refine steps_q rfl (q_bin rfl rfl (lss_t (by decide))) ?_  -- gjk.go:44
      refine steps_q rfl (q_move rfl) ?_  -- gjk.go:44
      refine steps_gn rfl rfl rfl rfl ?_  -- gjk.go:44
      refine steps_gn rfl rfl rfl rfl ?_  -- gjk.go:44
      refine steps_gn rfl rfl rfl rfl ?_  -- gjk.go:44
      refine steps_gn rfl rfl rfl rfl ?_  -- gjk.go:44
      refine steps_q rfl (q_pick_t rfl rfl) ?_  -- gjk.go:44
      refine steps_nil ?_
      refine cw_cond _ rfl (fun hc2 => ?_) (fun hc2 => ?_)
      · -- yes 2
        obtain rfl : j = 0 := hbest
        have hnew : ∀ q ∈ ps.take (0 + 1), dotS m.n (ptI ps (0 : Nat)) ≤ dotS m.n q := least_take pj (by simp) (Int.le_refl _)
        refine cw_draw mixed [0, 1, 2] 1 (without _ [5]) (by kernel_rfl) (sub_without _ _) ?_
        refine qi_q rfl rfl (q_move rfl) ?_  -- gjk.go:45
        refine qi_q rfl rfl (q_loadW 8 agg26 rfl rfl rfl) ?_  -- gjk.go:45
        refine qi_q rfl rfl (q_assign rfl) ?_  -- gjk.go:45
        refine qi_nil ?_
        refine tail_one 3 (by kernel_rfl) rfl rfl (s_storeW 5 siz26 rfl rfl rfl rfl rfl rfl ⟨(subl_cons rfl (sub_without _ _)), ?_⟩)  -- gjk.go:45
        refine tail_nil (by kernel_rfl) ?_
        refine at_then ?_
        refine cw_region ?_
        refine steps_q rfl (q_bin rfl rfl (add64 (by omega) (by omega))) ?_  -- gjk.go:43
        refine steps_q rfl (q_move rfl) ?_  -- gjk.go:43
        refine steps_nil ?_
        first
          | exact at_round (j + 1, some j) ⟨by dsimp only; omega, by dsimp only; exact ⟨by omega, hnew⟩⟩ (by dsimp only; omega) (subs ⟨rfl, rfl, rfl, rfl, rfl, by dsimp only; rw [show ((j + 1 : Nat) : Int) = j + 1 by omega]; rfl, trivial⟩) (subs ⟨rfl, rfl, trivial⟩)
          | exact at_round (0 + 1, some 0) ⟨by dsimp only; omega, by dsimp only; exact ⟨by omega, hnew⟩⟩ (by dsimp only; omega) (subs ⟨rfl, rfl, rfl, rfl, rfl, rfl, trivial⟩) (subs ⟨rfl, rfl, trivial⟩)
          | exact at_round (j + 1, some k) ⟨by dsimp only; omega, by dsimp only; exact ⟨by omega, hold⟩⟩ (by dsimp only; omega) (subs ⟨rfl, rfl, rfl, rfl, rfl, by dsimp only; rw [show ((j + 1 : Nat) : Int) = j + 1 by omega]; rfl, trivial⟩) (subs ⟨rfl, rfl, trivial⟩)
      · cases hc2
    · -- way 6.b
      refine cw_sr ?_
      refine steps_q rfl (q_move rfl) ?_  -- gjk.go:44
      refine steps_q rfl (q_bin rfl rfl (lss_f (show ¬ (k : Int) < 0 by omega))) ?_  -- gjk.go:44
      refine steps_q rfl (q_move rfl) ?_  -- gjk.go:44
      refine steps_gq rfl rfl rfl (q_loadW 8 agg26 rfl rfl rfl) ?_  -- gjk.go:44
      refine steps_gq rfl rfl rfl (q_loadW 5 agg26 rfl rfl rfl) ?_  -- gjk.go:44
      refine steps_gq rfl rfl rfl (q_pure ent21 rfl (wide_Cmp _ _ (hfd hpin) (hfd (ptI_in hok (i := k) (by omega) (by omega))))) ?_  -- gjk.go:44
      refine steps_gq rfl rfl rfl (q_bin rfl rfl (cmpI_lt _ _)) ?_  -- gjk.go:44
      refine steps_q rfl (q_pick_f rfl rfl) ?_  -- gjk.go:44
      refine steps_nil ?_
      refine cw_cond _ rfl (fun hc2 => ?_) (fun hc2 => ?_)
      · -- yes 2
        have hlt : dotS m.n (ptI ps j) < dotS m.n (ptI ps k) := of_decide_eq_true hc2
        have hnew : ∀ q ∈ ps.take (j + 1), dotS m.n (ptI ps j) ≤ dotS m.n q := least_take pj (fun q hq => by have := hbest.2 q hq; omega) (Int.le_refl _)
        refine cw_draw mixed [0, 1, 2] 1 (without _ [5]) (by kernel_rfl) (sub_without _ _) ?_
        refine qi_q rfl rfl (q_move rfl) ?_  -- gjk.go:45
        refine qi_q rfl rfl (q_loadW 8 agg26 rfl rfl rfl) ?_  -- gjk.go:45
        refine qi_q rfl rfl (q_assign rfl) ?_  -- gjk.go:45
        refine qi_nil ?_
        refine tail_one 3 (by kernel_rfl) rfl rfl (s_storeW 5 siz26 rfl rfl rfl rfl rfl rfl ⟨(subl_cons rfl (sub_without _ _)), ?_⟩)  -- gjk.go:45
        refine tail_nil (by kernel_rfl) ?_
        refine at_then ?_
        refine cw_region ?_
        refine steps_q rfl (q_bin rfl rfl (add64 (by omega) (by omega))) ?_  -- gjk.go:43
        refine steps_q rfl (q_move rfl) ?_  -- gjk.go:43
        refine steps_nil ?_
        first
          | exact at_round (j + 1, some j) ⟨by dsimp only; omega, by dsimp only; exact ⟨by omega, hnew⟩⟩ (by dsimp only; omega) (subs ⟨rfl, rfl, rfl, rfl, rfl, by dsimp only; rw [show ((j + 1 : Nat) : Int) = j + 1 by omega]; rfl, trivial⟩) (subs ⟨rfl, rfl, trivial⟩)
          | exact at_round (0 + 1, some 0) ⟨by dsimp only; omega, by dsimp only; exact ⟨by omega, hnew⟩⟩ (by dsimp only; omega) (subs ⟨rfl, rfl, rfl, rfl, rfl, rfl, trivial⟩) (subs ⟨rfl, rfl, trivial⟩)
          | exact at_round (j + 1, some k) ⟨by dsimp only; omega, by dsimp only; exact ⟨by omega, hold⟩⟩ (by dsimp only; omega) (subs ⟨rfl, rfl, rfl, rfl, rfl, by dsimp only; rw [show ((j + 1 : Nat) : Int) = j + 1 by omega]; rfl, trivial⟩) (subs ⟨rfl, rfl, trivial⟩)
      · -- no 2
        have hlt : ¬ dotS m.n (ptI ps j) < dotS m.n (ptI ps k) := of_decide_eq_false hc2
        have hold : ∀ q ∈ ps.take (j + 1), dotS m.n (ptI ps k) ≤ dotS m.n q := least_take pj hbest.2 (by omega)
        refine cw_skip ?_
        refine at_then ?_
        refine cw_region ?_
        refine steps_q rfl (q_bin rfl rfl (add64 (by omega) (by omega))) ?_  -- gjk.go:43
        refine steps_q rfl (q_move rfl) ?_  -- gjk.go:43
        refine steps_nil ?_
        first
          | exact at_round (j + 1, some j) ⟨by dsimp only; omega, by dsimp only; exact ⟨by omega, hnew⟩⟩ (by dsimp only; omega) (subs ⟨rfl, rfl, rfl, rfl, rfl, by dsimp only; rw [show ((j + 1 : Nat) : Int) = j + 1 by omega]; rfl, trivial⟩) (subs ⟨rfl, rfl, trivial⟩)
          | exact at_round (0 + 1, some 0) ⟨by dsimp only; omega, by dsimp only; exact ⟨by omega, hnew⟩⟩ (by dsimp only; omega) (subs ⟨rfl, rfl, rfl, rfl, rfl, rfl, trivial⟩) (subs ⟨rfl, rfl, trivial⟩)
          | exact at_round (j + 1, some k) ⟨by dsimp only; omega, by dsimp only; exact ⟨by omega, hold⟩⟩ (by dsimp only; omega) (subs ⟨rfl, rfl, rfl, rfl, rfl, by dsimp only; rw [show ((j + 1 : Nat) : Int) = j + 1 by omega]; rfl, trivial⟩) (subs ⟨rfl, rfl, trivial⟩)
  · -- no 1
    have hj : ¬ (j : Int) < (ps.length : Int) := of_decide_eq_false hc1
    rcases best with _ | k
    · have : j = 0 := hbest
      omega
    rw [List.take_of_length_le (by omega)] at hbest
    refine cw_exit ?_
    refine at_then ?_
    refine cw_sr ?_
    refine steps_q rfl (q_move rfl) ?_  -- gjk.go:48
    refine steps_q rfl (q_assign rfl) ?_  -- gjk.go:48
    refine steps_nil ?_
    refine cw_ret ?_
    exact at_ret rfl (rv_tmp rfl rv_nil) fun w' hw => ⟨k, rfl, ⟨by omega, by omega, hbest.2⟩, hw.below⟩
end Go.Proofs.Ytomdahjakkifbaa

/-
  The walks of package gjk: walk.
-/
namespace Go.Proofs.Ytomdahjakkifbaa
open Go Go.NP Go.RowKit Go.Proofs
set_option maxRecDepth 100000

theorem flat_vI : ∀ (xs : List Int), (xs.map intC).flatten = vI xs
  | [] => rfl
  | x :: r => by
    have := flat_vI r
    simp only [List.map_cons, List.flatten_cons, this, vI]
    rfl
theorem vI_len (xs : List Int) : (vI xs).length = xs.length := List.length_map _
theorem sv_vI {g : Nat} {cur : List Value} {cap : Nat} {xs : List Int} (h : SV.ok 1 (some (g, cur, cap)) (xs.map intC)) : ∃ rest, cur = vI xs ++ rest ∧ xs.length + rest.length = cap ∧ cap ≤ maxLen := by
  obtain ⟨h1, h2, h3, h4, h5⟩ := h
  rw [flat_vI, List.length_map, Nat.mul_one] at h4
  rw [List.length_map] at h2
  refine ⟨cur.drop xs.length, ?_, ?_, h3⟩
  · rw [← h4, List.take_append_drop]
  · rw [List.length_drop]; omega
theorem vI_sv {g cap : Nat} {rest : List Value} {zs : List Int} (h : zs.length + rest.length = cap) (h3 : cap ≤ maxLen) : SV.ok 1 (some (g, vI zs ++ rest, cap)) (zs.map intC) := by
  refine ⟨by rw [List.length_append, vI_len]; omega, by rw [List.length_map]; omega, h3, ?_, fun y hy => ?_⟩
  · rw [flat_vI, List.length_map, Nat.mul_one, ← vI_len zs, List.take_left]
  · obtain ⟨x, _, rfl⟩ := List.mem_map.1 hy; rfl
theorem past_of {S : List Pt} {p : Pt} (hd : 1 ≤ dI S) (h : pastB (nrOf S).n (nrOf S).d p = true) : dotS (nI S) p * dI S < sqS (nI S) := by
  refine Classical.byContradiction fun hc => ?_
  have := ((nrSum_same (nI S) (dI S)).past (p := p) (by omega) (by have := nrSum_pos (N := nI S) hd; omega)).1 (by omega)
  simp only [pastB, decide_eq_true_eq] at h
  have e : nrOf S = nrSum (nI S) (dI S) := rfl
  rw [e] at h
  omega
theorem ahead_of {ps S : List Pt} {k : Int} (hd : 1 ≤ dI S) (hk : LeastAt (nrOf S).n ps k) (h : pastB (nrOf S).n (nrOf S).d (ptI ps k) = false) : Ahead ps (nI S) (dI S) := by
  refine (past_iff hd).1 fun p hp => ?_
  have h1 := hk.2.2 p hp
  have h2 : 1 ≤ (nrOf S).d := nrSum_pos hd
  have h3 := Int.mul_le_mul_of_nonneg_right h1 (show 0 ≤ (nrOf S).d by omega)
  simp only [pastB, decide_eq_false_iff_not] at h ⊢
  have e : nrOf S = nrSum (nI S) (dI S) := rfl
  rw [e] at h3 h
  omega
/-- Where a walk over points may end. -/
def Ends (ps : List Pt) (own : List Int) : Prop := Own ps own ∧ Ahead ps (nI (sel ps own)) (dI (sel ps own))
/-- What walk hands back. -/
def WK (ps : List Pt) (v : Value) (Ln : HL) : Prop := ∃ own g cur cap, ∃ steps : Int, Ends ps own ∧ 1 ≤ steps ∧ steps ≤ mostI ps.length ∧
  v = .tuple #[.agg (Nr.l ⟨(nrOf (sel ps own)).n, (nrOf (sel ps own)).d, .slice (some ⟨g, 0, none⟩) own.length cap⟩).toArray, .int .i64 steps] ∧ Ln = [(63, (g, .cells cur.toArray 3 (0, 0)))] ∧ SV.ok 1 (some (g, cur, cap)) (own.map intC)
theorem ret_st {P : Program} {w0 : World} {N : Nat} {T : TL} {L Ln : HL} {fn : Func} {R : Value → HL → Prop} {rs : List ResultVar} {vs : List Value} {v : Value} (hr : fn.results.toList = rs) (h : RVs P T L rs vs) (hv : tup vs = v) (hR : R v Ln) (hl : ∀ w, St w0 [] w L → St w0 [] w Ln) :
    At w0 [] N D0 (bodyPost P fn fun e w' => ∃ v Ln, e = .returned v ∧ R v Ln ∧ St w0 [] w' Ln) .ret T L :=
  at_ret hr h fun w hw => ⟨v, Ln, by rw [hv], hR, hl w hw⟩
/-- What back hands back. -/
def BK (n : Sp) (ps : List Pt) (v : Value) (Ln : HL) : Prop := ∃ k, v = .int .i64 k ∧ LeastAt n ps k ∧ Ln = []
theorem gjk_backS {ps : List Pt} {w : World} {bl : Nat} {v : Value} {m : Nr} (h : WB w bl v ps) (hok : okPts ps) (h1 : 1 ≤ ps.length) (h256 : ps.length ≤ 256) (hn : m.n.In Mid) :
    Calls Try.prog 52 #[.agg m.l.toArray, .pointer (some ⟨bl, 0, none⟩)] w fun e w' => ∃ v Ln, e = .returned v ∧ BK m.n ps v Ln ∧ St w [] w' Ln :=
  (gjk_back h hok h1 h256 hn).mono fun _ _ ⟨k, e1, e2, e3⟩ => ⟨_, [], e1, ⟨k, rfl, e2, rfl⟩, (St.start w).grow e3⟩
theorem take_more {α β : Type} {l : List α} {f : α → β} {j : Nat} {x : α} (h : l[j]? = some x) : (l.take (j + 1)).map f = (l.take j).map f ++ [f x] := by rw [List.take_add_one, h, List.map_append]; rfl

set_option maxHeartbeats 8000000 in
theorem gjk_walk {ps : List Pt} {v : Value} (w : World) (hv : PtsAt w v ps) (hok : okPts ps) (h1 : 1 ≤ ps.length) (h256 : ps.length ≤ 256) :
    Calls Try.prog 31 #[v] w fun e w' => ∃ v Ln, e = .returned v ∧ WK ps v Ln ∧ St w [] w' Ln := by
  have hv0 := hv
  obtain ⟨a, c0, rfl, hs⟩ := hv
  rw [List.length_map] at hv0 ⊢
  have p0 := ptI_get (ps := ps) (Int.le_refl 0) (by omega)
  have p0l : (ps.map Pt.l)[(0 : Int).toNat]? = some (ptI ps 0).l := by rw [List.getElem?_map, p0]; rfl
  obtain ⟨bl, off, l0, fz, rfl, hb, hpt⟩ := hs.resolve_left (by intro h; rw [h] at p0l; simp at p0l)
  have hmost : mostI ps.length ≤ 8589934592 := by have := cn_bounds ps.length h256; unfold mostI; omega
  refine calls_of Try.func31 rfl Try.ntmps31 rfl (St.start w) (args := [.slice (some ⟨bl, off, none⟩) ps.length c0]) ?_
  refine cw_sr ?_
  refine steps_s (s_box1 1 rfl rfl rfl fun b1 => ?_)  -- gjk.go:40
  refine steps_s (s_allocA 2 rfl zer31 fun b2 => ?_)  -- gjk.go:40
  refine steps_q rfl (q_assign rfl) ?_  -- gjk.go:40
  refine steps_nil ?_
  refine cw_sr ?_
  refine steps_q rfl (q_func rfl rfl) ?_  -- gjk.go:41
  refine steps_q rfl (q_assign rfl) ?_  -- gjk.go:41
  refine steps_nil ?_
  refine cw_sr ?_
  refine steps_s (s_buildSl 65 rfl rfl rfl (bslI 0) fun b16 => ?_)  -- gjk.go:50
  refine steps_q rfl (q_assign rfl) ?_  -- gjk.go:50
  refine steps_nil ?_
  refine cw_block ?_
  -- LOOP 1 writes [3, 5, 6, 8, 9, 11, 13, 14, 17, 18, 19, 20, 21, 22, 23, 24, 25, 26, 27, 28, 29, 30, 31, 32, 33, 34, 35, 36, 37, 38, 39, 40, 41, 42, 43, 44, 45, 46, 47, 48, 49, 50, 51, 52, 53, 54, 55, 56, 57, 58, 59, 60, 61, 62, 63, 64, 65, 66, 67, 68, 69, 70, 71, 72, 73, 74, 75, 76, 77, 78, 79]  stores via [2, 9, 61]  reads [1, 2, 4]
  refine cw_loop (S := List Int × List (List Int) × Nat × List Value × Nat) (fun s => [(1, .pointer (some ⟨b1, 0, none⟩)), (2, .pointer (some ⟨b2, 0, none⟩)), (3, .int .i64 s.2.1.length), (4, .func (.func 52) #[] #[.pointer (some ⟨b1, 0, none⟩)]), (5, .slice (some ⟨s.2.2.1, 0, none⟩) s.1.length s.2.2.2.2)]) (fun s => [(1, (b1, .cells [.slice (some ⟨bl, off, none⟩) ps.length c0].toArray 22 (0, 0))), (2, (b2, .cells (Nr.l nrZ).toArray 31 (0, 0))), (65, (s.2.2.1, .cells s.2.2.2.1.toArray 3 (0, 0)))]) (fun s => WI ps s.1 s.2.1 ∧ SV.ok 1 (some s.2.2) (s.1.map intC)) (fun s => (mostI ps.length).toNat - s.2.1.length) ([0], [], b16, intC 0, 1) ⟨WI.begin h1, rfl, Nat.le_refl _, by unfold maxLen; omega, rfl, fun y hy => by simp at hy; subst hy; rfl⟩ (subs ⟨rfl, rfl, rfl, rfl, rfl, trivial⟩) (subs ⟨rfl, rfl, rfl, trivial⟩) ?_
  rintro ⟨at_, seen, ga, cura, capa⟩ ⟨hWI, hsva⟩
  dsimp only at hWI hsva
  conv => enter [7]; dsimp only
  conv => enter [8]; dsimp only
  have ha1 := hWI.one
  have ha4 := hWI.four
  have hasl := sel_len ps at_
  have hsok := sel_ok hok hWI.in'
  have hseen := seen_le hWI.nd hWI.own
  refine cw_block ?_
  refine cw_sr ?_
  refine steps_q rfl (q_assign rfl) ?_  -- gjk.go:52
  refine steps_nil ?_
  refine cw_seq ?_
  refine cw_sr ?_
  refine steps_q rfl (q_move rfl) ?_  -- gjk.go:53
  refine steps_q rfl (q_lenSl Try.underlying29 rfl) ?_  -- gjk.go:53
  refine steps_q rfl (q_move rfl) ?_  -- gjk.go:53
  refine steps_nil ?_
  refine cw_block ?_
  -- LOOP 2 writes [6, 8, 19, 20, 21, 22, 23, 24, 25, 26, 27, 28, 29, 30]  stores via []  reads [1, 17, 18]
  refine cw_loop (S := Nat × SV) (fun s => [(1, .pointer (some ⟨b1, 0, none⟩)), (2, .pointer (some ⟨b2, 0, none⟩)), (3, .int .i64 seen.length), (4, .func (.func 52) #[] #[.pointer (some ⟨b1, 0, none⟩)]), (5, .slice (some ⟨ga, 0, none⟩) at_.length capa), (6, s.2.v s.1), (17, .slice (some ⟨ga, 0, none⟩) at_.length capa), (18, .int .i64 at_.length), (19, .int .i64 s.1)]) (fun s => ([(1, (b1, .cells [.slice (some ⟨bl, off, none⟩) ps.length c0].toArray 22 (0, 0))), (2, (b2, .cells (Nr.l nrZ).toArray 31 (0, 0))), (65, (ga, .cells cura.toArray 3 (0, 0)))] : HL) ++ s.2.l 61 38) (fun s => s.1 ≤ at_.length ∧ s.2.ok 3 (((sel ps at_).take s.1).map Pt.l)) (fun s => at_.length - s.1) (0, none) ⟨by dsimp only; omega, by simp [SV.ok]⟩ (subs ⟨rfl, rfl, rfl, rfl, rfl, rfl, rfl, rfl, rfl, trivial⟩) (subs ⟨rfl, rfl, rfl, trivial⟩) ?_
  rintro ⟨k, sv⟩ ⟨k1, hsk⟩
  dsimp only at k1 hsk
  conv => enter [7]; dsimp only
  conv => enter [8]; dsimp only
  have hkl : (((sel ps at_).take k).map Pt.l).length = k := by rw [List.length_map, List.length_take, hasl]; omega
  refine cw_sr ?_
  refine steps_q rfl (q_bin rfl rfl rfl) ?_  -- gjk.go:53
  refine steps_nil ?_
  refine cw_seq ?_
  refine cw_cond _ rfl (fun hc1 => ?_) (fun hc1 => ?_)
  · -- yes 1
    have hk : (k : Int) < (at_.length : Int) := of_decide_eq_true hc1
    obtain ⟨m, hm⟩ : ∃ m, at_[k]? = some m := ⟨at_[k]'(by omega), List.getElem?_eq_getElem (by omega)⟩
    have hml : (at_.map intC)[(k : Int).toNat]? = some (intC m) := by rw [Int.toNat_natCast, List.getElem?_map, hm]; rfl
    have hmb := hWI.in' m (List.mem_of_getElem? hm)
    have pm := ptI_get (ps := ps) hmb.1 hmb.2
    have pml : (ps.map Pt.l)[m.toNat]? = some (ptI ps m).l := by rw [List.getElem?_map, pm]; rfl
    have hsm : (sel ps at_)[k]? = some (ptI ps m) := by rw [sel, List.getElem?_map, hm]; rfl
    have htk := take_more (f := Pt.l) hsm
    refine cw_skip ?_
    refine at_then ?_
    refine cw_seq ?_
    refine cw_block ?_
    refine cw_sr ?_
    refine steps_q rfl (q_indexSl slc29 rfl rfl (by omega) (by omega)) ?_  -- gjk.go:53
    refine steps_q rfl (q_load1 65 one3 rfl rfl (part1 (SV.part hsva hml))) ?_  -- gjk.go:53
    refine steps_q rfl (q_assign rfl) ?_  -- gjk.go:53
    refine steps_nil ?_
    rcases sv with _ | ⟨g1, cur1, cap1⟩
    · -- way 7.a
      refine cw_region ?_
      refine steps_q rfl (q_move rfl) ?_  -- gjk.go:54
      refine steps_q rfl (q_load1 1 one22 rfl rfl rfl) ?_  -- gjk.go:54
      refine steps_q rfl (q_move rfl) ?_  -- gjk.go:54
      refine steps_q rfl (q_indexSl slc22 rfl rfl hmb.1 (by omega)) ?_  -- gjk.go:54
      refine steps_q rfl (q_loadAo agg38 rfl hb (by simp) (hpt _ _ pml)) ?_  -- gjk.go:54
      refine steps_s (s_buildSl 28 rfl rfl rfl (bslP (ptI ps m)) fun b28 => ?_)  -- gjk.go:54
      refine steps_s (s_appendN 61 28 none k (((sel ps at_).take k).map Pt.l) (ptI ps m).l hkl elt22 rfl rfl hsk (subs trivial) rfl rfl rfl rfl (by omega) (by unfold maxLen; omega) fun g1 cur1 cap1 hk1 => ?_)  -- gjk.go:54
      refine steps_q rfl (q_assign rfl) ?_  -- gjk.go:54
      refine steps_nil ?_
      refine at_then ?_
      refine cw_region ?_
      refine steps_q rfl (q_bin rfl rfl (add64 (by omega) (by omega))) ?_  -- gjk.go:53
      refine steps_q rfl (q_move rfl) ?_  -- gjk.go:53
      refine steps_nil ?_
      exact at_round (k + 1, some (g1, cur1, cap1)) ⟨by dsimp only; omega, by dsimp only; rw [htk]; exact hk1⟩ (by dsimp only; omega) (subs ⟨rfl, rfl, rfl, rfl, rfl, rfl, rfl, rfl, by dsimp only; rw [show ((k + 1 : Nat) : Int) = k + 1 by omega]; rfl, trivial⟩) (subs ⟨rfl, rfl, rfl, rfl, trivial⟩)
    · -- way 7.b
      refine cw_region ?_
      refine steps_q rfl (q_move rfl) ?_  -- gjk.go:54
      refine steps_q rfl (q_load1 1 one22 rfl rfl rfl) ?_  -- gjk.go:54
      refine steps_q rfl (q_move rfl) ?_  -- gjk.go:54
      refine steps_q rfl (q_indexSl slc22 rfl rfl hmb.1 (by omega)) ?_  -- gjk.go:54
      refine steps_q rfl (q_loadAo agg38 rfl hb (by simp) (hpt _ _ pml)) ?_  -- gjk.go:54
      refine steps_s (s_buildSl 28 rfl rfl rfl (bslP (ptI ps m)) fun b28 => ?_)  -- gjk.go:54
      refine steps_s (s_appendN 61 28 (some (g1, cur1, cap1)) k (((sel ps at_).take k).map Pt.l) (ptI ps m).l hkl elt22 rfl rfl hsk (subs ⟨rfl, trivial⟩) rfl rfl rfl rfl (by omega) (by unfold maxLen; omega) fun g1 cur1 cap1 hk1 => ?_)  -- gjk.go:54
      refine steps_q rfl (q_assign rfl) ?_  -- gjk.go:54
      refine steps_nil ?_
      refine at_then ?_
      refine cw_region ?_
      refine steps_q rfl (q_bin rfl rfl (add64 (by omega) (by omega))) ?_  -- gjk.go:53
      refine steps_q rfl (q_move rfl) ?_  -- gjk.go:53
      refine steps_nil ?_
      exact at_round (k + 1, some (g1, cur1, cap1)) ⟨by dsimp only; omega, by dsimp only; rw [htk]; exact hk1⟩ (by dsimp only; omega) (subs ⟨rfl, rfl, rfl, rfl, rfl, rfl, rfl, rfl, by dsimp only; rw [show ((k + 1 : Nat) : Int) = k + 1 by omega]; rfl, trivial⟩) (subs ⟨rfl, rfl, rfl, rfl, trivial⟩)
  · -- no 1
    have hk : ¬ (k : Int) < (at_.length : Int) := of_decide_eq_false hc1
    have hkc : k = at_.length := by omega
    subst hkc
    rw [List.take_of_length_le (by omega)] at hsk hkl
    rcases sv with _ | ⟨g1, cur1, cap1⟩
    · exfalso
      have := SV.len0 hsk
      omega
    refine cw_exit ?_
    refine at_then ?_
    refine cw_sr ?_
    refine steps_q rfl (q_move rfl) ?_  -- gjk.go:56
    refine steps_s (s_callSt ent12 rfl rfl rfl (R := NR (sel ps at_)) (fun w' hw => by have h0 : PtsAt w' (.slice (some ⟨g1, 0, none⟩) at_.length cap1) (sel ps at_) := (by have := SlAt.own (q := some (g1, cur1, cap1)) (i := 61) (e := 38) hw (subs ⟨rfl, trivial⟩) hsk; rwa [hkl] at this); simpa using simplex_Near_ok w' h0 hsok (by omega) (by omega)) fun v Ln hZ => ?_)  -- gjk.go:56
    obtain ⟨c, gN, curN, capN, hc, ht, rfl, rfl, hsvN⟩ := hZ
    obtain ⟨hO, esel, hnd, hlt⟩ := hWI.step hc ht
    obtain ⟨cc1, cc4, cck, -⟩ := choice_len (n4 (by omega) (by omega)) hc
    rw [hasl] at cck
    rw [esel]
    obtain ⟨own, hown⟩ : ∃ own, own = pickI at_ c := ⟨_, rfl⟩
    rw [← hown] at hO esel hnd hlt ⊢
    have hol : own.length = c.length := by rw [hown, pickI, List.length_map]
    have hcount := seen_le hnd (fun o ho => by rcases List.mem_cons.1 ho with rfl | h; exact hO; exact hWI.own o h)
    rw [List.length_cons] at hcount
    have hdp := hO.good.dpos
    have hnb := nrOf_bd (sel_ok hok hO.at') hO.good.ne hO.good.le (by omega)
    refine steps_q rfl (q_move rfl) ?_  -- gjk.go:56
    refine steps_q rfl (q_extract rfl rfl) ?_  -- gjk.go:56
    refine steps_q rfl (q_extract rfl rfl) ?_  -- gjk.go:56
    refine steps_s (s_allocA 9 rfl zer31 fun b9 => ?_)  -- gjk.go:56
    refine steps_s (s_storeW 9 siz31 rfl rfl rfl rfl rfl rfl ?_)  -- gjk.go:56
    refine steps_q rfl (q_assign rfl) ?_  -- gjk.go:56
    refine steps_nil ?_
    refine cw_sr ?_
    refine steps_q rfl (q_assign rfl) ?_  -- gjk.go:57
    refine steps_nil ?_
    refine cw_seq ?_
    refine cw_sr ?_
    refine steps_q rfl (q_field fld31_2 rfl) ?_  -- gjk.go:58
    refine steps_q rfl (q_load1 9 one29 rfl rfl rfl) ?_  -- gjk.go:58
    refine steps_q rfl (q_lenSl Try.underlying29 rfl) ?_  -- gjk.go:58
    refine steps_q rfl (q_move rfl) ?_  -- gjk.go:58
    refine steps_nil ?_
    refine cw_block ?_
    -- LOOP 3 writes [11, 13, 39, 40, 41, 42, 43, 44, 45, 46, 47, 48, 49, 50]  stores via []  reads [5, 37, 38]
    refine cw_loop (S := Nat × SV) (fun s => [(1, .pointer (some ⟨b1, 0, none⟩)), (2, .pointer (some ⟨b2, 0, none⟩)), (3, .int .i64 seen.length), (4, .func (.func 52) #[] #[.pointer (some ⟨b1, 0, none⟩)]), (5, .slice (some ⟨ga, 0, none⟩) at_.length capa), (9, .pointer (some ⟨b9, 0, none⟩)), (11, s.2.v s.1), (37, .slice (some ⟨gN, 0, none⟩) c.length capN), (38, .int .i64 c.length), (39, .int .i64 s.1)]) (fun s => ([(1, (b1, .cells [.slice (some ⟨bl, off, none⟩) ps.length c0].toArray 22 (0, 0))), (2, (b2, .cells (Nr.l nrZ).toArray 31 (0, 0))), (65, (ga, .cells cura.toArray 3 (0, 0))), (63, (gN, .cells curN.toArray 3 (0, 0))), (9, (b9, .cells (Nr.l ⟨(nrOf (sel ps own)).n, (nrOf (sel ps own)).d, .slice (some ⟨gN, 0, none⟩) c.length capN⟩).toArray 31 (0, 0)))] : HL) ++ s.2.l 64 3) (fun s => s.1 ≤ c.length ∧ s.2.ok 1 ((own.take s.1).map intC)) (fun s => c.length - s.1) (0, none) ⟨by dsimp only; omega, by simp [SV.ok]⟩ (subs ⟨rfl, rfl, rfl, rfl, rfl, rfl, rfl, rfl, rfl, rfl, trivial⟩) (subs ⟨rfl, rfl, rfl, rfl, rfl, trivial⟩) ?_
    rintro ⟨k, sv⟩ ⟨k1, hsk2⟩
    dsimp only at k1 hsk2
    conv => enter [7]; dsimp only
    conv => enter [8]; dsimp only
    have hkl2 : ((own.take k).map intC).length = k := by rw [List.length_map, List.length_take, hol]; omega
    refine cw_sr ?_
    refine steps_q rfl (q_bin rfl rfl rfl) ?_  -- gjk.go:58
    refine steps_nil ?_
    refine cw_seq ?_
    refine cw_cond _ rfl (fun hc2 => ?_) (fun hc2 => ?_)
    · -- yes 2
      have hk : (k : Int) < (c.length : Int) := of_decide_eq_true hc2
      obtain ⟨m, hm⟩ : ∃ m, c[k]? = some m := ⟨c[k]'(by omega), List.getElem?_eq_getElem (by omega)⟩
      have hml : (c.map intC)[(k : Int).toNat]? = some (intC m) := by rw [Int.toNat_natCast, List.getElem?_map, hm]; rfl
      have hmb := cck m (List.mem_of_getElem? hm)
      obtain ⟨q, hq⟩ : ∃ q, at_[m.toNat]? = some q := ⟨at_[m.toNat]'(by omega), List.getElem?_eq_getElem (by omega)⟩
      have hql : (at_.map intC)[m.toNat]? = some (intC q) := by rw [List.getElem?_map, hq]; rfl
      have hoq : own[k]? = some q := by rw [hown, pickI, List.getElem?_map, hm]; simp [List.getD_eq_getElem?_getD, hq]
      have htk := take_more (f := intC) hoq
      refine cw_skip ?_
      refine at_then ?_
      refine cw_seq ?_
      refine cw_block ?_
      refine cw_sr ?_
      refine steps_q rfl (q_indexSl slc29 rfl rfl (by omega) (by omega)) ?_  -- gjk.go:58
      refine steps_q rfl (q_load1 63 one3 rfl rfl (part1 (SV.part hsvN hml))) ?_  -- gjk.go:58
      refine steps_q rfl (q_assign rfl) ?_  -- gjk.go:58
      refine steps_nil ?_
      rcases sv with _ | ⟨g2, cur2, cap2⟩
      · -- way 14.a
        refine cw_region ?_
        refine steps_q rfl (q_move rfl) ?_  -- gjk.go:59
        refine steps_q rfl (q_move rfl) ?_  -- gjk.go:59
        refine steps_q rfl (q_move rfl) ?_  -- gjk.go:59
        refine steps_q rfl (q_indexSl slc29 rfl rfl hmb.1 (by omega)) ?_  -- gjk.go:59
        refine steps_q rfl (q_load1 65 one3 rfl rfl (part1 (SV.part hsva hql))) ?_  -- gjk.go:59
        refine steps_s (s_buildSl 48 rfl rfl rfl (bslI q) fun b48 => ?_)  -- gjk.go:59
        refine steps_s (s_appendN 64 48 none k ((own.take k).map intC) (intC q) hkl2 elt29 rfl rfl hsk2 (subs trivial) rfl rfl rfl rfl (by omega) (by unfold maxLen; omega) fun g2 cur2 cap2 hk2 => ?_)  -- gjk.go:59
        refine steps_q rfl (q_assign rfl) ?_  -- gjk.go:59
        refine steps_nil ?_
        refine at_then ?_
        refine cw_region ?_
        refine steps_q rfl (q_bin rfl rfl (add64 (by omega) (by omega))) ?_  -- gjk.go:58
        refine steps_q rfl (q_move rfl) ?_  -- gjk.go:58
        refine steps_nil ?_
        exact at_round (k + 1, some (g2, cur2, cap2)) ⟨by dsimp only; omega, by dsimp only; rw [htk]; exact hk2⟩ (by dsimp only; omega) (subs ⟨rfl, rfl, rfl, rfl, rfl, rfl, rfl, rfl, rfl, by dsimp only; rw [show ((k + 1 : Nat) : Int) = k + 1 by omega]; rfl, trivial⟩) (subs ⟨rfl, rfl, rfl, rfl, rfl, rfl, trivial⟩)
      · -- way 14.b
        refine cw_region ?_
        refine steps_q rfl (q_move rfl) ?_  -- gjk.go:59
        refine steps_q rfl (q_move rfl) ?_  -- gjk.go:59
        refine steps_q rfl (q_move rfl) ?_  -- gjk.go:59
        refine steps_q rfl (q_indexSl slc29 rfl rfl hmb.1 (by omega)) ?_  -- gjk.go:59
        refine steps_q rfl (q_load1 65 one3 rfl rfl (part1 (SV.part hsva hql))) ?_  -- gjk.go:59
        refine steps_s (s_buildSl 48 rfl rfl rfl (bslI q) fun b48 => ?_)  -- gjk.go:59
        refine steps_s (s_appendN 64 48 (some (g2, cur2, cap2)) k ((own.take k).map intC) (intC q) hkl2 elt29 rfl rfl hsk2 (subs ⟨rfl, trivial⟩) rfl rfl rfl rfl (by omega) (by unfold maxLen; omega) fun g2 cur2 cap2 hk2 => ?_)  -- gjk.go:59
        refine steps_q rfl (q_assign rfl) ?_  -- gjk.go:59
        refine steps_nil ?_
        refine at_then ?_
        refine cw_region ?_
        refine steps_q rfl (q_bin rfl rfl (add64 (by omega) (by omega))) ?_  -- gjk.go:58
        refine steps_q rfl (q_move rfl) ?_  -- gjk.go:58
        refine steps_nil ?_
        exact at_round (k + 1, some (g2, cur2, cap2)) ⟨by dsimp only; omega, by dsimp only; rw [htk]; exact hk2⟩ (by dsimp only; omega) (subs ⟨rfl, rfl, rfl, rfl, rfl, rfl, rfl, rfl, rfl, by dsimp only; rw [show ((k + 1 : Nat) : Int) = k + 1 by omega]; rfl, trivial⟩) (subs ⟨rfl, rfl, rfl, rfl, rfl, rfl, trivial⟩)
    · -- no 2
      have hk : ¬ (k : Int) < (c.length : Int) := of_decide_eq_false hc2
      have hkc : k = c.length := by omega
      subst hkc
      rw [List.take_of_length_le (by omega)] at hsk2 hkl2
      rcases sv with _ | ⟨g2, cur2, cap2⟩
      · exfalso
        have := SV.len0 hsk2
        omega
      rw [← hol]
      refine cw_exit ?_
      refine at_then ?_
      refine cw_seq ?_
      refine cw_sr ?_
      refine steps_q rfl (q_move rfl) ?_  -- gjk.go:61
      refine steps_q rfl (q_bin rfl rfl (add64 (by omega) (by omega))) ?_  -- gjk.go:61
      refine steps_q rfl (q_assign rfl) ?_  -- gjk.go:61
      refine steps_nil ?_
      refine cw_sr ?_
      refine steps_q rfl (q_move rfl) ?_  -- gjk.go:61
      refine steps_q rfl (q_load1 1 one22 rfl rfl rfl) ?_  -- gjk.go:61
      refine steps_q rfl (q_lenSl Try.underlying22 rfl) ?_  -- gjk.go:61
      refine steps_q rfl (q_pure ent53 rfl (gjk_most h256)) ?_  -- gjk.go:61
      refine steps_q rfl (q_bin rfl rfl (gtr_f (by omega))) ?_  -- gjk.go:61
      refine steps_nil ?_
      refine cw_cond _ rfl (fun hc3 => ?_) (fun hc3 => ?_)
      · cases hc3
      · -- no 3
        refine cw_skip ?_
        refine at_then ?_
        refine cw_sr ?_
        refine steps_q rfl (q_move rfl) ?_  -- gjk.go:64
        refine steps_q rfl (q_field fld31_2 rfl) ?_  -- gjk.go:64
        refine steps_s (s_store1 9 siz29 rfl rfl rfl rfl rfl (show 33 ≤ 33 from Nat.le_refl _) (l' := Nr.l ⟨(nrOf (sel ps own)).n, (nrOf (sel ps own)).d, .slice (some ⟨g2, 0, none⟩) own.length cap2⟩) rfl ?_)  -- gjk.go:64
        refine steps_nil ?_
        refine cw_sr ?_
        refine steps_q rfl (q_move rfl) ?_  -- gjk.go:65
        refine steps_q rfl (q_loadW 9 agg31 rfl rfl rfl) ?_  -- gjk.go:65
        refine steps_s (s_callSt ent52 rfl rfl rfl (R := BK (nrOf (sel ps own)).n ps) (fun w' hw => by simpa using gjk_backS (m := ⟨(nrOf (sel ps own)).n, (nrOf (sel ps own)).d, .slice (some ⟨g2, 0, none⟩) own.length cap2⟩) (ps := ps) (bl := b1) (v := .slice (some ⟨bl, off, none⟩) ps.length c0) (w := w') ⟨(hw.known 1 _ _ rfl).1, SlAt.st hv0 hw⟩ hok h1 h256 hnb.1) fun v Ln hZ => ?_)  -- gjk.go:65
        obtain ⟨kk, rfl, hkk, rfl⟩ := hZ
        have pk := ptI_get (ps := ps) hkk.1 hkk.2.1
        have pkl : (ps.map Pt.l)[kk.toNat]? = some (ptI ps kk).l := by rw [List.getElem?_map, pk]; rfl
        have hpkin := (ptI_in hok hkk.1 hkk.2.1).mono (show (268435456 : Int) ≤ P40 by decide)
        refine steps_q rfl (q_assign rfl) ?_  -- gjk.go:65
        refine steps_nil ?_
        refine cw_seq ?_
        refine cw_sd mixed [0, 1, 2, 3, 4, 5, 6] 0 _ (by kernel_rfl) (SubL.refl _) ?_
        refine qi_q rfl rfl (q_loadW 9 agg31 rfl rfl rfl) ?_  -- gjk.go:66
        refine qi_q rfl rfl (q_load1 1 one22 rfl rfl rfl) ?_  -- gjk.go:66
        refine qi_q rfl rfl (q_move rfl) ?_  -- gjk.go:66
        refine qi_q rfl rfl (q_indexSl slc22 rfl rfl hkk.1 hkk.2.1) ?_  -- gjk.go:66
        refine qi_q rfl rfl (q_loadAo agg38 rfl hb (by simp) (hpt _ _ pkl)) ?_  -- gjk.go:66
        refine qi_q rfl rfl (q_pure ent10 rfl (simplex_Past (m := ⟨(nrOf (sel ps own)).n, (nrOf (sel ps own)).d, .slice (some ⟨g2, 0, none⟩) own.length cap2⟩) hnb.1 (by have := hnb.2; dsimp only; omega) hpkin)) ?_  -- gjk.go:66
        refine qi_q rfl rfl (q_not rfl rfl) ?_  -- gjk.go:66
        refine qi_nil ?_
        refine tail_nil (by kernel_rfl) ?_
        refine cw_cond _ rfl (fun hc4 => ?_) (fun hc4 => ?_)
        · -- yes 4
          have hpast : pastB (nrOf (sel ps own)).n (nrOf (sel ps own)).d (ptI ps kk) = false := by simpa using hc4
          refine cw_sr ?_
          refine steps_q rfl (q_loadW 9 agg31 rfl rfl rfl) ?_  -- gjk.go:67
          refine steps_q rfl (q_move rfl) ?_  -- gjk.go:67
          refine steps_s (s_storeW 2 siz31 rfl rfl rfl rfl rfl rfl ?_)  -- gjk.go:67
          refine steps_q rfl (q_assign rfl) ?_  -- gjk.go:67
          refine steps_nil ?_
          refine cw_ret ?_
          exact ret_st rfl (rv_agg 2 agg31 rfl rfl rfl (rv_tmp rfl rv_nil)) rfl ⟨own, g2, cur2, cap2, _, ⟨hO, ahead_of (by omega) hkk hpast⟩, by omega, hcount, rfl, rfl, hsk2⟩ fun w' hw => hw.only (j := 64) rfl
        · -- no 4
          have hpast : pastB (nrOf (sel ps own)).n (nrOf (sel ps own)).d (ptI ps kk) = true := by simpa using hc4
          have hpu := past_of (by omega) hpast
          have ho3 := three_of_past hO.good hpu
          rw [sel_len] at ho3
          have ho1 := hO.len.1
          have hoi : (own.map intC).length = own.length := List.length_map _
          refine cw_skip ?_
          refine at_then ?_
          refine cw_sr ?_
          refine steps_q rfl (q_move rfl) ?_  -- gjk.go:69
          refine steps_s (s_callSt ent54 rfl rfl rfl (R := CL own) (fun w' hw => by have h0 : SlAt w' 3 1 (.slice (some ⟨g2, 0, none⟩) own.length cap2) (own.map intC) := (by have := SlAt.own (q := some (g2, cur2, cap2)) (i := 64) (e := 3) hw (subs ⟨rfl, trivial⟩) hsk2; rwa [hoi] at this); simpa using clone_ints w' h0 (by omega) (by omega)) fun v Ln hZ => ?_)  -- gjk.go:69
          obtain ⟨g3, cur3, cap3, rfl, rfl, hsv3⟩ := hZ
          refine steps_q rfl (q_move rfl) ?_  -- gjk.go:69
          refine steps_s (s_buildSl 77 rfl rfl rfl (bslI kk) fun b77 => ?_)  -- gjk.go:69
          refine steps_s (s_appendN 65 77 (some (g3, cur3, cap3)) own.length (own.map intC) (intC kk) hoi elt29 rfl rfl hsv3 (subs ⟨rfl, trivial⟩) rfl rfl rfl rfl (by omega) (by unfold maxLen; omega) fun g4 cur4 cap4 hk4 => ?_)  -- gjk.go:69
          refine steps_q rfl (q_assign rfl) ?_  -- gjk.go:69
          refine steps_nil ?_
          refine cw_region ?_
          refine steps_q rfl (q_move rfl) ?_  -- gjk.go:70
          have hk4' : SV.ok 1 (some (g4, cur4, cap4)) ((own ++ [kk]).map intC) := by rw [List.map_append]; exact hk4
          obtain ⟨rest, rfl, hcap, hmax⟩ := sv_vI hk4'
          refine steps_s (s_callUpdE (k := 1) 65 ent55 rfl rfl rfl rfl (R := SortedO (own ++ [kk]) rest) (fun w' hw => by simpa using sort_ints (ys := own ++ [kk]) (cap := cap4) (by simp; omega) w' hw) fun o' hR => ?_)  -- gjk.go:70
          refine steps_nil ?_
          obtain ⟨zs, rfl, hperm, hsorted⟩ := hR
          have hzl := hperm.length_eq
          rw [List.length_append, List.length_singleton] at hzl hcap
          exact at_round (Q := fun _ _ _ => True) (zs, own :: seen, g4, vI zs ++ rest, cap4) ⟨hWI.next hO hnd hlt ⟨hkk.1, hkk.2.1⟩ hpu hperm hsorted, vI_sv (by omega) hmax⟩ (by dsimp only; rw [List.length_cons]; omega) (subs ⟨rfl, rfl, by dsimp only; rw [List.length_cons, show ((seen.length + 1 : Nat) : Int) = seen.length + 1 by omega]; rfl, rfl, by dsimp only; rw [hzl]; rfl, trivial⟩) (subs ⟨rfl, rfl, rfl, trivial⟩)
end Go.Proofs.Ytomdahjakkifbaa

/-
  The walks of package gjk: found, Near, Steps.
-/
namespace Go.Proofs.Ytomdahjakkifbaa
open Go Go.NP Go.RowKit Go.Proofs
set_option maxRecDepth 100000

theorem found_idle (p q r : Value) : Idle Try.prog 30 #[p, q, r] :=
  idle_of (n := 3) Try.func30 Try.underlying20 rfl rfl (by decide) (by simp [Try.ntmps30])
theorem retD_st {P : Program} {w0 : World} {N : Nat} {T : TL} {L Ln : HL} {fn : Func} {R : Value → HL → Prop} {rs : List ResultVar} {vs : List Value} {v : Value} {f : FuncId} {cs : Array Value} (hr : fn.results.toList = rs) (h : RVs P T L rs vs) (he : Ent P f) (hi : Idle P f cs) (hv : tup vs = v) (hR : R v Ln) (hl : ∀ w, St w0 [] w L → St w0 [] w Ln) :
    At w0 [] N ⟨[{ target := .fn (.func f) cs, args := #[] }], none⟩ (bodyPostD P fn fun e w' => ∃ v Ln, e = .returned v ∧ R v Ln ∧ St w0 [] w' Ln) .ret T L :=
  at_retD hr h he hi fun w hw => ⟨v, Ln, by rw [hv], hR, hl w hw⟩
/-- What found hands back. -/
def FK (ps : List Pt) (v : Value) (Ln : HL) : Prop := ∃ own g cur cap, ∃ steps : Int, Ends ps own ∧ 1 ≤ steps ∧ steps ≤ mostI ps.length ∧
  v = .tuple #[.agg (Nr.l ⟨(nrOf (sel ps own)).n, (nrOf (sel ps own)).d, .slice (some ⟨g, 0, none⟩) own.length cap⟩).toArray, .int .i64 steps, .int .i64 0] ∧ Ln = [(63, (g, .cells cur.toArray 3 (0, 0)))] ∧ SV.ok 1 (some (g, cur, cap)) (own.map intC)
theorem gjk_found_ok {ps : List Pt} {v : Value} (w : World) (hv : PtsAt w v ps) (he : errG ps = 0) :
    Calls Try.prog 16 #[v] w fun e w' => ∃ v Ln, e = .returned v ∧ FK ps v Ln ∧ St w [] w' Ln := by
  have hv0 := hv
  obtain ⟨hok, h1, h256⟩ := errG_ok.1 he
  obtain ⟨a, c0, rfl, hs⟩ := hv
  rw [List.length_map] at hv0 ⊢
  refine calls_ofD Try.func16 rfl Try.ntmps16 rfl (St.start w) (args := [.slice a ps.length c0]) ?_
  refine cw_sr ?_
  refine steps_s (s_allocA 2 rfl zer31 fun b2 => ?_)  -- gjk.go:75
  refine steps_s (s_alloc1 3 rfl zer3 rfl fun b3 => ?_)  -- gjk.go:75
  refine steps_s (s_alloc1 4 rfl zer32 rfl fun b4 => ?_)  -- gjk.go:75
  refine steps_nil ?_
  refine cw_seq ?_
  refine cw_sr ?_
  refine steps_q rfl (q_move rfl) ?_  -- gjk.go:76
  refine steps_q rfl (q_call ent29 rfl rfl (fun w' hw => by simpa using gjk_fine w' (SlAt.st hv0 hw) (by omega))) ?_  -- gjk.go:76
  refine steps_q rfl (q_assign rfl) ?_  -- gjk.go:76
  refine steps_nil ?_
  refine cw_sr ?_
  refine steps_q rfl (q_move rfl) ?_  -- gjk.go:76
  refine steps_q rfl (q_bin rfl rfl (neq_f he)) ?_  -- gjk.go:76
  refine steps_nil ?_
  refine cw_cond _ rfl (fun hc1 => ?_) (fun hc1 => ?_)
  · cases hc1
  · -- no 1
    refine cw_skip ?_
    refine at_then ?_
    refine cw_defer rfl rfl ?_
    refine cw_sr ?_
    refine steps_q rfl (q_move rfl) ?_  -- gjk.go:84
    refine steps_s (s_callSt ent31 rfl rfl rfl (R := WK ps) (fun w' hw => by simpa using gjk_walk w' (SlAt.st hv0 hw) hok h1 h256) fun v Ln hZ => ?_)  -- gjk.go:84
    obtain ⟨own, g, cur, cap, steps, hE, s1, s2, rfl, rfl, hsv⟩ := hZ
    refine steps_q rfl (q_move rfl) ?_  -- gjk.go:84
    refine steps_q rfl (q_extract rfl rfl) ?_  -- gjk.go:84
    refine steps_q rfl (q_extract rfl rfl) ?_  -- gjk.go:84
    refine steps_s (s_storeW 2 siz31 rfl rfl rfl rfl rfl rfl ?_)  -- gjk.go:84
    refine steps_s (s_storeV 3 siz3 rfl rfl rfl rfl rfl ?_)  -- gjk.go:84
    refine steps_nil ?_
    refine cw_join (S := Unit) (fun _ => [(2, .pointer (some ⟨b2, 0, none⟩)), (3, .pointer (some ⟨b3, 0, none⟩)), (4, .pointer (some ⟨b4, 0, none⟩))]) (fun _ => [(63, (g, .cells cur.toArray 3 (0, 0))), (2, (b2, .cells (Nr.l ⟨(nrOf (sel ps own)).n, (nrOf (sel ps own)).d, .slice (some ⟨g, 0, none⟩) own.length cap⟩).toArray 31 (0, 0))), (3, (b3, .cells [.int .i64 steps].toArray 3 (0, 0))), (4, (b4, .cells [.int .i64 0].toArray 32 (0, 0)))]) (fun _ => True) ?_ fun _ _ => ?_
    · -- the orders of region 6
      refine cw_draw mixed [] 5 (without _ [2, 3, 4]) (by kernel_rfl) (sub_without _ _) ?_
      refine qi_nil ?_
      refine tail_cons [0, 1] (by kernel_rfl) ⟨⟨_, rfl, rfl, ?_⟩, ⟨_, rfl, rfl, ?_⟩, trivial⟩
      · refine (q_loadW 2 agg31 rfl rfl rfl).step rfl (by decide) ⟨(sub_without _ _), ?_⟩
        refine tail_cons [1, 2] (by kernel_rfl) ⟨⟨_, rfl, rfl, ?_⟩, ⟨_, rfl, rfl, ?_⟩, trivial⟩
        · refine (q_load1 3 one3 rfl rfl rfl).step rfl (by decide) ⟨(sub_without _ _), ?_⟩
          refine tail_one 2 (by kernel_rfl) rfl rfl (s_storeW 2 siz31 rfl rfl rfl rfl rfl rfl ⟨(subl_cons rfl (sub_without _ _)), ?_⟩)  -- gjk.go:85
          refine tail_one 3 (by kernel_rfl) rfl rfl (s_storeV 3 siz3 rfl rfl rfl rfl rfl ⟨(subl_cons rfl (subl_cons rfl (sub_without _ _))), ?_⟩)  -- gjk.go:85
          refine tail_one 4 (by kernel_rfl) rfl rfl (s_storeV 4 siz32 rfl rfl rfl rfl rfl ⟨(subl_cons rfl (subl_cons rfl (subl_cons rfl (sub_without _ _)))), ?_⟩)  -- gjk.go:85
          refine tail_nil (by kernel_rfl) ?_
          exact at_join () (trivial) (subs ⟨rfl, rfl, rfl, trivial⟩) (subs ⟨rfl, rfl, rfl, rfl, trivial⟩)
        · refine s_storeW 2 siz31 rfl rfl rfl rfl rfl rfl ⟨(subl_cons rfl (sub_without _ _)), ?_⟩
          refine tail_one 1 (by kernel_rfl) rfl rfl ((q_load1 3 one3 rfl rfl rfl).step rfl (by decide) ⟨(subl_cons rfl (sub_without _ _)), ?_⟩)  -- gjk.go:85
          refine tail_one 3 (by kernel_rfl) rfl rfl (s_storeV 3 siz3 rfl rfl rfl rfl rfl ⟨(subl_cons rfl (subl_cons rfl (sub_without _ _))), ?_⟩)  -- gjk.go:85
          refine tail_one 4 (by kernel_rfl) rfl rfl (s_storeV 4 siz32 rfl rfl rfl rfl rfl ⟨(subl_cons rfl (subl_cons rfl (subl_cons rfl (sub_without _ _)))), ?_⟩)  -- gjk.go:85
          refine tail_nil (by kernel_rfl) ?_
          exact at_join () (trivial) (subs ⟨rfl, rfl, rfl, trivial⟩) (subs ⟨rfl, rfl, rfl, rfl, trivial⟩)
      · refine (q_load1 3 one3 rfl rfl rfl).step rfl (by decide) ⟨(sub_without _ _), ?_⟩
        refine tail_one 0 (by kernel_rfl) rfl rfl ((q_loadW 2 agg31 rfl rfl rfl).step rfl (by decide) ⟨(sub_without _ _), ?_⟩)  -- gjk.go:85
        refine tail_one 2 (by kernel_rfl) rfl rfl (s_storeW 2 siz31 rfl rfl rfl rfl rfl rfl ⟨(subl_cons rfl (sub_without _ _)), ?_⟩)  -- gjk.go:85
        refine tail_one 3 (by kernel_rfl) rfl rfl (s_storeV 3 siz3 rfl rfl rfl rfl rfl ⟨(subl_cons rfl (subl_cons rfl (sub_without _ _))), ?_⟩)  -- gjk.go:85
        refine tail_one 4 (by kernel_rfl) rfl rfl (s_storeV 4 siz32 rfl rfl rfl rfl rfl ⟨(subl_cons rfl (subl_cons rfl (subl_cons rfl (sub_without _ _)))), ?_⟩)  -- gjk.go:85
        refine tail_nil (by kernel_rfl) ?_
        exact at_join () (trivial) (subs ⟨rfl, rfl, rfl, trivial⟩) (subs ⟨rfl, rfl, rfl, rfl, trivial⟩)
    · -- behind region 6
      refine cw_ret ?_
      exact retD_st rfl (rv_agg 2 agg31 rfl rfl rfl (rv_one 3 one3 rfl rfl rfl (rv_one 4 one32 rfl rfl rfl rv_nil))) ent30 (found_idle _ _ _) rfl ⟨own, g, cur, cap, steps, hE, s1, s2, rfl, rfl, hsv⟩ fun w' hw => hw.only (j := 63) rfl
theorem gjk_found_bad {ps : List Pt} {v : Value} (w : World) (hv : PtsAt w v ps) (hl : ps.length ≤ 9223372036854775807) (he : errG ps ≠ 0) :
    Calls Try.prog 16 #[v] w fun e w' => e = .returned (.tuple #[.agg (Nr.l nrZ).toArray, .int .i64 0, .int .i64 (errG ps)]) ∧ Below w.heap.size w w' := by
  have hv0 := hv
  obtain ⟨a, c0, rfl, hs⟩ := hv
  rw [List.length_map] at hv0 ⊢
  refine calls_of Try.func16 rfl Try.ntmps16 rfl (St.start w) (args := [.slice a ps.length c0]) ?_
  refine cw_sr ?_
  refine steps_s (s_allocA 2 rfl zer31 fun b2 => ?_)  -- gjk.go:75
  refine steps_s (s_alloc1 3 rfl zer3 rfl fun b3 => ?_)  -- gjk.go:75
  refine steps_s (s_alloc1 4 rfl zer32 rfl fun b4 => ?_)  -- gjk.go:75
  refine steps_nil ?_
  refine cw_seq ?_
  refine cw_sr ?_
  refine steps_q rfl (q_move rfl) ?_  -- gjk.go:76
  refine steps_q rfl (q_call ent29 rfl rfl (fun w' hw => by simpa using gjk_fine w' (SlAt.st hv0 hw) hl)) ?_  -- gjk.go:76
  refine steps_q rfl (q_assign rfl) ?_  -- gjk.go:76
  refine steps_nil ?_
  refine cw_sr ?_
  refine steps_q rfl (q_move rfl) ?_  -- gjk.go:76
  refine steps_q rfl (q_bin rfl rfl (neq_t he)) ?_  -- gjk.go:76
  refine steps_nil ?_
  refine cw_cond _ rfl (fun hc1 => ?_) (fun hc1 => ?_)
  · -- yes 1
    refine cw_sr ?_
    refine steps_q rfl (q_build (vs := []) rfl rfl bldN0) ?_  -- gjk.go:77
    refine steps_q rfl (q_move rfl) ?_  -- gjk.go:77
    refine steps_s (s_storeW 2 siz31 rfl rfl rfl rfl rfl rfl ?_)  -- gjk.go:77
    refine steps_s (s_storeV 3 siz3 rfl rfl rfl rfl rfl ?_)  -- gjk.go:77
    refine steps_s (s_storeV 4 siz32 rfl rfl rfl rfl rfl ?_)  -- gjk.go:77
    refine steps_nil ?_
    refine cw_ret ?_
    exact ret_pure rfl (rv_agg 2 agg31 rfl rfl rfl (rv_one 3 one3 rfl rfl rfl (rv_one 4 one32 rfl rfl rfl rv_nil))) rfl
  · cases hc1
/-- What Near hands back. -/
def GN (ps : List Pt) (v : Value) (Ln : HL) : Prop := ∃ own g cur cap, Ends ps own ∧
  v = .tuple #[.agg (Nr.l ⟨(nrOf (sel ps own)).n, (nrOf (sel ps own)).d, .slice (some ⟨g, 0, none⟩) own.length cap⟩).toArray, .int .i64 0] ∧ Ln = [(63, (g, .cells cur.toArray 3 (0, 0)))] ∧ SV.ok 1 (some (g, cur, cap)) (own.map intC)
theorem ends_of_test {ps : List Pt} (h1 : 1 ≤ ps.length) (h4 : ps.length ≤ 4) {c : List Int} (hc : c ∈ choicesI ps.length) (ht : testB ps c = true) : Ends ps c := by
  obtain ⟨c1, c4, ck, cup⟩ := choice_len (n4 (by omega) (by omega)) hc
  obtain ⟨hg, ha⟩ := (testB_iff c1 c4).1 ht
  exact ⟨⟨cup, ck, hg⟩, ha⟩
theorem leq_t {a b : Int} (h : a ≤ b) : binI .leq .i64 a .i64 b = some (.bool true) := by simp [binI, h]
theorem leq_f {a b : Int} (h : ¬ a ≤ b) : binI .leq .i64 a .i64 b = some (.bool false) := by simp [binI]; omega
theorem geq_t {a b : Int} (h : a ≥ b) : binI .geq .i64 a .i64 b = some (.bool true) := by simp [binI, h]
theorem geq_f {a b : Int} (h : ¬ a ≥ b) : binI .geq .i64 a .i64 b = some (.bool false) := by simp [binI]; omega
theorem eql_t {a b : Int} (h : a = b) : binI .eql .i64 a .i64 b = some (.bool true) := by simp [binI, h]
theorem eql_f {a b : Int} (h : a ≠ b) : binI .eql .i64 a .i64 b = some (.bool false) := by simp [binI, h]
theorem gjk_Near_ok {ps : List Pt} {v : Value} (w : World) (hv : PtsAt w v ps) (he : errG ps = 0) :
    Calls Try.prog 6 #[v] w fun e w' => ∃ v Ln, e = .returned v ∧ GN ps v Ln ∧ St w [] w' Ln := by
  have hv0 := hv
  obtain ⟨hok, h1, h256⟩ := errG_ok.1 he
  obtain ⟨a, c0, rfl, hs⟩ := hv
  rw [List.length_map] at hv0 ⊢
  refine calls_of Try.func6 rfl Try.ntmps6 rfl (St.start w) (args := [.slice a ps.length c0]) ?_
  by_cases h4 : ps.length ≤ 4
  · skip
    refine cw_sr ?_
    refine steps_s (s_allocA 2 rfl zer31 fun b2 => ?_)  -- gjk.go:89
    refine steps_q rfl (q_assign rfl) ?_  -- gjk.go:89
    refine steps_nil ?_
    refine cw_sr ?_
    refine steps_q rfl (q_move rfl) ?_  -- gjk.go:90
    refine steps_s (s_callSt ent16 rfl rfl rfl (R := FK ps) (fun w' hw => by simpa using gjk_found_ok w' (SlAt.st hv0 hw) he) fun v Ln hZ => ?_)  -- gjk.go:90
    obtain ⟨own, g, cur, cap, steps, hE, s1, s2, rfl, rfl, hsv⟩ := hZ
    refine steps_q rfl (q_move rfl) ?_  -- gjk.go:90
    refine steps_q rfl (q_extract rfl rfl) ?_  -- gjk.go:90
    refine steps_q rfl (q_extract rfl rfl) ?_  -- gjk.go:90
    refine steps_q rfl (q_extract rfl rfl) ?_  -- gjk.go:90
    refine steps_s (s_allocA 4 rfl zer31 fun b4 => ?_)  -- gjk.go:90
    refine steps_s (s_storeW 4 siz31 rfl rfl rfl rfl rfl rfl ?_)  -- gjk.go:90
    refine steps_q rfl (q_assign rfl) ?_  -- gjk.go:90
    refine steps_q rfl (q_assign rfl) ?_  -- gjk.go:90
    refine steps_nil ?_
    refine cw_seq ?_
    refine cw_sr ?_
    refine steps_q rfl (q_move rfl) ?_  -- gjk.go:91
    refine steps_q rfl (q_bin rfl rfl (eql_t rfl)) ?_  -- gjk.go:91
    refine steps_q rfl (q_move rfl) ?_  -- gjk.go:91
    refine steps_gq rfl rfl rfl (q_move rfl) ?_  -- gjk.go:91
    refine steps_gq rfl rfl rfl (q_lenSl Try.underlying22 rfl) ?_  -- gjk.go:91
    refine steps_gq rfl rfl rfl (q_bin rfl rfl (leq_t (by omega))) ?_  -- gjk.go:91
    refine steps_q rfl (q_pick_t rfl rfl) ?_  -- gjk.go:91
    refine steps_nil ?_
    refine cw_cond _ rfl (fun hc1 => ?_) (fun hc1 => ?_)
    · -- yes 1
      refine cw_sr ?_
      refine steps_q rfl (q_move rfl) ?_  -- gjk.go:92
      refine steps_s (s_callSt ent12 rfl rfl rfl (R := NR ps) (fun w' hw => by simpa using simplex_Near_ok w' (SlAt.st hv0 hw) hok h1 h4) fun v Ln hZ => ?_)  -- gjk.go:92
      obtain ⟨c, g, cur, cap, hc, ht, rfl, rfl, hsv⟩ := hZ
      refine steps_q rfl (q_extract rfl rfl) ?_  -- gjk.go:92
      refine steps_q rfl (q_extract rfl rfl) ?_  -- gjk.go:92
      refine steps_s (s_storeW 2 siz31 rfl rfl rfl rfl rfl rfl ?_)  -- gjk.go:92
      refine steps_q rfl (q_assign rfl) ?_  -- gjk.go:92
      refine steps_nil ?_
      refine cw_ret ?_
      exact ret_st rfl (rv_agg 2 agg31 rfl rfl rfl (rv_tmp rfl rv_nil)) rfl ⟨c, g, cur, cap, ends_of_test h1 h4 hc ht, rfl, rfl, hsv⟩ fun w' hw => hw.only (j := 63) rfl
    · cases hc1
  · skip
    refine cw_sr ?_
    refine steps_s (s_allocA 2 rfl zer31 fun b2 => ?_)  -- gjk.go:89
    refine steps_q rfl (q_assign rfl) ?_  -- gjk.go:89
    refine steps_nil ?_
    refine cw_sr ?_
    refine steps_q rfl (q_move rfl) ?_  -- gjk.go:90
    refine steps_s (s_callSt ent16 rfl rfl rfl (R := FK ps) (fun w' hw => by simpa using gjk_found_ok w' (SlAt.st hv0 hw) he) fun v Ln hZ => ?_)  -- gjk.go:90
    obtain ⟨own, g, cur, cap, steps, hE, s1, s2, rfl, rfl, hsv⟩ := hZ
    refine steps_q rfl (q_move rfl) ?_  -- gjk.go:90
    refine steps_q rfl (q_extract rfl rfl) ?_  -- gjk.go:90
    refine steps_q rfl (q_extract rfl rfl) ?_  -- gjk.go:90
    refine steps_q rfl (q_extract rfl rfl) ?_  -- gjk.go:90
    refine steps_s (s_allocA 4 rfl zer31 fun b4 => ?_)  -- gjk.go:90
    refine steps_s (s_storeW 4 siz31 rfl rfl rfl rfl rfl rfl ?_)  -- gjk.go:90
    refine steps_q rfl (q_assign rfl) ?_  -- gjk.go:90
    refine steps_q rfl (q_assign rfl) ?_  -- gjk.go:90
    refine steps_nil ?_
    refine cw_seq ?_
    refine cw_sr ?_
    refine steps_q rfl (q_move rfl) ?_  -- gjk.go:91
    refine steps_q rfl (q_bin rfl rfl (eql_t rfl)) ?_  -- gjk.go:91
    refine steps_q rfl (q_move rfl) ?_  -- gjk.go:91
    refine steps_gq rfl rfl rfl (q_move rfl) ?_  -- gjk.go:91
    refine steps_gq rfl rfl rfl (q_lenSl Try.underlying22 rfl) ?_  -- gjk.go:91
    refine steps_gq rfl rfl rfl (q_bin rfl rfl (leq_f (by omega))) ?_  -- gjk.go:91
    refine steps_q rfl (q_pick_t rfl rfl) ?_  -- gjk.go:91
    refine steps_nil ?_
    refine cw_cond _ rfl (fun hc1 => ?_) (fun hc1 => ?_)
    · cases hc1
    · -- no 1
      refine cw_skip ?_
      refine at_then ?_
      refine cw_sr ?_
      refine steps_q rfl (q_loadW 4 agg31 rfl rfl rfl) ?_  -- gjk.go:94
      refine steps_q rfl (q_move rfl) ?_  -- gjk.go:94
      refine steps_s (s_storeW 2 siz31 rfl rfl rfl rfl rfl rfl ?_)  -- gjk.go:94
      refine steps_q rfl (q_assign rfl) ?_  -- gjk.go:94
      refine steps_nil ?_
      refine cw_ret ?_
      exact ret_st rfl (rv_agg 2 agg31 rfl rfl rfl (rv_tmp rfl rv_nil)) rfl ⟨own, g, cur, cap, hE, rfl, rfl, hsv⟩ fun w' hw => hw.only (j := 63) rfl
theorem gjk_Near_bad {ps : List Pt} {v : Value} (w : World) (hv : PtsAt w v ps) (hl : ps.length ≤ 9223372036854775807) (he : errG ps ≠ 0) :
    Calls Try.prog 6 #[v] w fun e w' => e = .returned (.tuple #[.agg (Nr.l nrZ).toArray, .int .i64 (errG ps)]) ∧ Below w.heap.size w w' := by
  have hv0 := hv
  obtain ⟨a, c0, rfl, hs⟩ := hv
  rw [List.length_map] at hv0 ⊢
  refine calls_of Try.func6 rfl Try.ntmps6 rfl (St.start w) (args := [.slice a ps.length c0]) ?_
  refine cw_sr ?_
  refine steps_s (s_allocA 2 rfl zer31 fun b2 => ?_)  -- gjk.go:89
  refine steps_q rfl (q_assign rfl) ?_  -- gjk.go:89
  refine steps_nil ?_
  refine cw_sr ?_
  refine steps_q rfl (q_move rfl) ?_  -- gjk.go:90
  refine steps_q rfl (q_call ent16 rfl rfl (fun w' hw => by simpa using gjk_found_bad w' (SlAt.st hv0 hw) hl he)) ?_  -- gjk.go:90
  refine steps_q rfl (q_move rfl) ?_  -- gjk.go:90
  refine steps_q rfl (q_extract rfl rfl) ?_  -- gjk.go:90
  refine steps_q rfl (q_extract rfl rfl) ?_  -- gjk.go:90
  refine steps_q rfl (q_extract rfl rfl) ?_  -- gjk.go:90
  refine steps_s (s_allocA 4 rfl zer31 fun b4 => ?_)  -- gjk.go:90
  refine steps_s (s_storeW 4 siz31 rfl rfl rfl rfl rfl rfl ?_)  -- gjk.go:90
  refine steps_q rfl (q_assign rfl) ?_  -- gjk.go:90
  refine steps_q rfl (q_assign rfl) ?_  -- gjk.go:90
  refine steps_nil ?_
  refine cw_seq ?_
  refine cw_sr ?_
  refine steps_q rfl (q_move rfl) ?_  -- gjk.go:91
  refine steps_q rfl (q_bin rfl rfl (eql_f he)) ?_  -- gjk.go:91
  refine steps_q rfl (q_move rfl) ?_  -- gjk.go:91
  refine steps_gn rfl rfl rfl rfl ?_  -- gjk.go:91
  refine steps_gn rfl rfl rfl rfl ?_  -- gjk.go:91
  refine steps_gn rfl rfl rfl rfl ?_  -- gjk.go:91
  refine steps_q rfl (q_pick_f rfl rfl) ?_  -- gjk.go:91
  refine steps_nil ?_
  refine cw_cond _ rfl (fun hc1 => ?_) (fun hc1 => ?_)
  · cases hc1
  · -- no 1
    refine cw_skip ?_
    refine at_then ?_
    refine cw_sr ?_
    refine steps_q rfl (q_loadW 4 agg31 rfl rfl rfl) ?_  -- gjk.go:94
    refine steps_q rfl (q_move rfl) ?_  -- gjk.go:94
    refine steps_s (s_storeW 2 siz31 rfl rfl rfl rfl rfl rfl ?_)  -- gjk.go:94
    refine steps_q rfl (q_assign rfl) ?_  -- gjk.go:94
    refine steps_nil ?_
    refine cw_ret ?_
    exact ret_pure rfl (rv_agg 2 agg31 rfl rfl rfl (rv_tmp rfl rv_nil)) rfl
/-- What Steps hands back. -/
def GS (ps : List Pt) (v : Value) (Ln : HL) : Prop := ∃ steps : Int, 1 ≤ steps ∧ steps ≤ mostI ps.length ∧ v = .tuple #[.int .i64 steps, .int .i64 0] ∧ Ln = []
theorem gjk_Steps_ok {ps : List Pt} {v : Value} (w : World) (hv : PtsAt w v ps) (he : errG ps = 0) :
    Calls Try.prog 9 #[v] w fun e w' => ∃ v Ln, e = .returned v ∧ GS ps v Ln ∧ St w [] w' Ln := by
  have hv0 := hv
  obtain ⟨a, c0, rfl, hs⟩ := hv
  rw [List.length_map] at hv0 ⊢
  refine calls_of Try.func9 rfl Try.ntmps9 rfl (St.start w) (args := [.slice a ps.length c0]) ?_
  refine cw_sr ?_
  refine steps_q rfl (q_assign rfl) ?_  -- gjk.go:98
  refine steps_q rfl (q_assign rfl) ?_  -- gjk.go:98
  refine steps_nil ?_
  refine cw_sr ?_
  refine steps_q rfl (q_move rfl) ?_  -- gjk.go:99
  refine steps_s (s_callSt ent16 rfl rfl rfl (R := FK ps) (fun w' hw => by simpa using gjk_found_ok w' (SlAt.st hv0 hw) he) fun v Ln hZ => ?_)  -- gjk.go:99
  obtain ⟨own, g, cur, cap, steps, hE, s1, s2, rfl, rfl, hsv⟩ := hZ
  refine steps_q rfl (q_move rfl) ?_  -- gjk.go:99
  refine steps_q rfl (q_extract rfl rfl) ?_  -- gjk.go:99
  refine steps_q rfl (q_extract rfl rfl) ?_  -- gjk.go:99
  refine steps_q rfl (q_extract rfl rfl) ?_  -- gjk.go:99
  refine steps_s (s_allocA 4 rfl zer31 fun b4 => ?_)  -- gjk.go:99
  refine steps_s (s_storeW 4 siz31 rfl rfl rfl rfl rfl rfl ?_)  -- gjk.go:99
  refine steps_q rfl (q_assign rfl) ?_  -- gjk.go:99
  refine steps_q rfl (q_assign rfl) ?_  -- gjk.go:99
  refine steps_nil ?_
  refine cw_sr ?_
  refine steps_q rfl (q_move rfl) ?_  -- gjk.go:100
  refine steps_q rfl (q_move rfl) ?_  -- gjk.go:100
  refine steps_q rfl (q_assign rfl) ?_  -- gjk.go:100
  refine steps_q rfl (q_assign rfl) ?_  -- gjk.go:100
  refine steps_nil ?_
  refine cw_ret ?_
  exact ret_st rfl (rv_tmp rfl (rv_tmp rfl rv_nil)) rfl ⟨steps, s1, s2, rfl, rfl⟩ fun w' hw => hw.weaken (subs trivial)
theorem gjk_Steps_bad {ps : List Pt} {v : Value} (w : World) (hv : PtsAt w v ps) (hl : ps.length ≤ 9223372036854775807) (he : errG ps ≠ 0) :
    Calls Try.prog 9 #[v] w fun e w' => e = .returned (.tuple #[.int .i64 0, .int .i64 (errG ps)]) ∧ Below w.heap.size w w' := by
  have hv0 := hv
  obtain ⟨a, c0, rfl, hs⟩ := hv
  rw [List.length_map] at hv0 ⊢
  refine calls_of Try.func9 rfl Try.ntmps9 rfl (St.start w) (args := [.slice a ps.length c0]) ?_
  refine cw_sr ?_
  refine steps_q rfl (q_assign rfl) ?_  -- gjk.go:98
  refine steps_q rfl (q_assign rfl) ?_  -- gjk.go:98
  refine steps_nil ?_
  refine cw_sr ?_
  refine steps_q rfl (q_move rfl) ?_  -- gjk.go:99
  refine steps_q rfl (q_call ent16 rfl rfl (fun w' hw => by simpa using gjk_found_bad w' (SlAt.st hv0 hw) hl he)) ?_  -- gjk.go:99
  refine steps_q rfl (q_move rfl) ?_  -- gjk.go:99
  refine steps_q rfl (q_extract rfl rfl) ?_  -- gjk.go:99
  refine steps_q rfl (q_extract rfl rfl) ?_  -- gjk.go:99
  refine steps_q rfl (q_extract rfl rfl) ?_  -- gjk.go:99
  refine steps_s (s_allocA 4 rfl zer31 fun b4 => ?_)  -- gjk.go:99
  refine steps_s (s_storeW 4 siz31 rfl rfl rfl rfl rfl rfl ?_)  -- gjk.go:99
  refine steps_q rfl (q_assign rfl) ?_  -- gjk.go:99
  refine steps_q rfl (q_assign rfl) ?_  -- gjk.go:99
  refine steps_nil ?_
  refine cw_sr ?_
  refine steps_q rfl (q_move rfl) ?_  -- gjk.go:100
  refine steps_q rfl (q_move rfl) ?_  -- gjk.go:100
  refine steps_q rfl (q_assign rfl) ?_  -- gjk.go:100
  refine steps_q rfl (q_assign rfl) ?_  -- gjk.go:100
  refine steps_nil ?_
  refine cw_ret ?_
  exact ret_pure rfl (rv_tmp rfl (rv_tmp rfl rv_nil)) rfl
end Go.Proofs.Ytomdahjakkifbaa

/-
  The walks of package gjk: Less.
-/
namespace Go.Proofs.Ytomdahjakkifbaa
open Go Go.NP Go.RowKit Go.Proofs
set_option maxRecDepth 100000

/-- The differences of two lists. -/
def dif (a b : List Pt) : List Pt := a.flatMap fun p => b.map (subP p)
theorem dif_len (a b : List Pt) : (dif a b).length = a.length * b.length := by
  induction a with
  | nil => simp [dif]
  | cons p a ih =>
    have : dif (p :: a) b = b.map (subP p) ++ dif a b := rfl
    rw [this, List.length_append, ih, List.length_map, List.length_cons, Nat.add_mul]; omega
theorem dif_take {a b : List Pt} {i : Nat} {p : Pt} (h : a[i]? = some p) : dif (a.take (i + 1)) b = dif (a.take i) b ++ b.map (subP p) := by
  simp only [dif, List.take_add_one, h, List.flatMap_append]
  simp
def eC (i : Int) : Int := if i = 0 then 7 else if i = 1 then 3 else 2
/-- What stands against the differences. -/
def errL (a b : List Pt) : Int :=
  if errG a = 7 ∨ errG b = 7 then 7 else if errG a = 3 ∨ errG b = 3 then 3 else if errG a = 2 ∨ errG b = 2 then 2
  else if a.length * b.length > 256 then 3 else errG (dif a b)
theorem errG_cases (ps : List Pt) : errG ps = 0 ∨ errG ps = 2 ∨ errG ps = 3 ∨ errG ps = 7 := by
  unfold errG; split
  · split
    · simp
    · split <;> simp
  · simp
theorem errL_hit {a b : List Pt} {i : Int} (h0 : 0 ≤ i) (h1 : i < 3) (hn : ∀ j, 0 ≤ j → j < i → errG a ≠ eC j ∧ errG b ≠ eC j) (h : errG a = eC i ∨ errG b = eC i) : errL a b = eC i := by
  have : i = 0 ∨ i = 1 ∨ i = 2 := by omega
  rcases this with rfl | rfl | rfl
  · exact if_pos h
  · have h0 := hn 0 (by omega) (by omega)
    unfold errL
    rw [if_neg (by intro hh; rcases hh with hh | hh; exact h0.1 hh; exact h0.2 hh)]
    exact if_pos h
  · have h0 := hn 0 (by omega) (by omega)
    have h1 := hn 1 (by omega) (by omega)
    unfold errL
    rw [if_neg (by intro hh; rcases hh with hh | hh; exact h0.1 hh; exact h0.2 hh), if_neg (by intro hh; rcases hh with hh | hh; exact h1.1 hh; exact h1.2 hh)]
    exact if_pos h
theorem errL_rest {a b : List Pt} (hn : ∀ j, 0 ≤ j → j < 3 → errG a ≠ eC j ∧ errG b ≠ eC j) : errL a b = (if a.length * b.length > 256 then 3 else errG (dif a b)) ∧ errG a = 0 ∧ errG b = 0 := by
  have h0 := hn 0 (by omega) (by omega)
  have h1 := hn 1 (by omega) (by omega)
  have h2 := hn 2 (by omega) (by omega)
  refine ⟨?_, ?_, ?_⟩
  · unfold errL
    rw [if_neg (by intro hh; rcases hh with hh | hh; exact h0.1 hh; exact h0.2 hh), if_neg (by intro hh; rcases hh with hh | hh; exact h1.1 hh; exact h1.2 hh), if_neg (by intro hh; rcases hh with hh | hh; exact h2.1 hh; exact h2.2 hh)]
  · have : errG a ≠ 7 := h0.1
    have : errG a ≠ 3 := h1.1
    have : errG a ≠ 2 := h2.1
    have := errG_cases a; omega
  · have : errG b ≠ 7 := h0.2
    have : errG b ≠ 3 := h1.2
    have : errG b ≠ 2 := h2.2
    have := errG_cases b; omega
theorem bldE3 : ∀ w, (Instr.build 128 [(0, Value.int .i64 7), (1, Value.int .i64 3), (2, Value.int .i64 2)].toArray).run Try.prog w = .ok (.agg #[.int .i64 7, .int .i64 3, .int .i64 2]) w := fun w => by kernel_rfl
theorem eC_get {i : Int} (h0 : 0 ≤ i) (h1 : i < 3) : (#[Value.int .i64 7, .int .i64 3, .int .i64 2] : Array Value)[i.toNat]? = some (.int .i64 (eC i)) := by
  have : i = 0 ∨ i = 1 ∨ i = 2 := by omega
  rcases this with rfl | rfl | rfl <;> rfl
theorem hn_more {a b : List Pt} {i : Int} (hn : ∀ j, 0 ≤ j → j < i → errG a ≠ eC j ∧ errG b ≠ eC j) (h1 : ¬ errG a = eC i) (h2 : ¬ errG b = eC i) : ∀ j, 0 ≤ j → j < i + 1 → errG a ≠ eC j ∧ errG b ≠ eC j := fun j j0 j1 => by
  by_cases e : j = i
  · subst e; exact ⟨h1, h2⟩
  · exact hn j j0 (by omega)
/-- What Less hands back. -/
def LS (a b : List Pt) (v : Value) (Ln : HL) : Prop :=
  (errL a b = 0 ∧ ∃ g cur cap, v = .tuple #[.slice (some ⟨g, 0, none⟩) (dif a b).length cap, .int .i64 0] ∧ Ln = [(66, (g, .cells cur.toArray 38 (0, 0)))] ∧ SV.ok 3 (some (g, cur, cap)) ((dif a b).map Pt.l)) ∨
  (errL a b ≠ 0 ∧ v = .tuple #[.slice none 0 0, .int .i64 (errL a b)] ∧ Ln = [])
theorem three (p q : Prop) : p ∨ (¬ p ∧ q) ∨ (¬ p ∧ ¬ q) := by
  rcases Classical.em p with hp | hp
  · exact .inl hp
  · rcases Classical.em q with hq | hq
    · exact .inr (.inl ⟨hp, hq⟩)
    · exact .inr (.inr ⟨hp, hq⟩)
theorem eC_ne (i : Int) : eC i ≠ 0 := by unfold eC; split <;> (try split) <;> omega

set_option maxHeartbeats 4000000 in
theorem gjk_Less {a b : List Pt} {u v : Value} (w : World) (hu : PtsAt w u a) (hv : PtsAt w v b) (hla : a.length ≤ 9223372036854775807) (hlb : b.length ≤ 9223372036854775807) :
    Calls Try.prog 56 #[u, v] w fun e w' => ∃ v Ln, e = .returned v ∧ LS a b v Ln ∧ St w [] w' Ln := by
  have hu0 := hu
  have hv0 := hv
  obtain ⟨x, c, rfl, hs⟩ := hu
  obtain ⟨y, c', rfl, hs'⟩ := hv
  rw [List.length_map] at hu0 ⊢
  rw [List.length_map] at hv0 ⊢
  refine calls_of Try.func56 rfl Try.ntmps56 rfl (St.start w) (args := [.slice x a.length c, .slice y b.length c']) ?_
  refine cw_sr ?_
  refine steps_q rfl (q_assign rfl) ?_  -- gjk.go:104
  refine steps_q rfl (q_assign rfl) ?_  -- gjk.go:104
  refine steps_nil ?_
  refine cw_sr ?_
  refine steps_q rfl (q_move rfl) ?_  -- gjk.go:105
  refine steps_q rfl (q_call ent29 rfl rfl (fun w' hw => by simpa using gjk_fine w' (SlAt.st hu0 hw) hla)) ?_  -- gjk.go:105
  refine steps_q rfl (q_move rfl) ?_  -- gjk.go:105
  refine steps_q rfl (q_call ent29 rfl rfl (fun w' hw => by simpa using gjk_fine w' (SlAt.st hv0 hw) hlb)) ?_  -- gjk.go:105
  refine steps_q rfl (q_assign rfl) ?_  -- gjk.go:105
  refine steps_q rfl (q_assign rfl) ?_  -- gjk.go:105
  refine steps_nil ?_
  refine cw_seq ?_
  refine cw_sr ?_
  refine steps_q rfl (q_build (vs := [(0, _), (1, _), (2, _)]) rfl rfl bldE3) ?_  -- gjk.go:106
  refine steps_q rfl (q_move rfl) ?_  -- gjk.go:106
  refine steps_nil ?_
  refine cw_block ?_
  -- LOOP 1 writes [9, 21, 22, 23, 24, 25, 26, 27, 28, 29, 30, 31, 32, 33]  stores via []  reads [6, 7, 20]
  refine cw_loop (S := Int) (fun i => [(0, .slice x a.length c), (1, .slice y b.length c'), (6, .int .i64 (errG a)), (7, .int .i64 (errG b)), (20, .agg #[.int .i64 7, .int .i64 3, .int .i64 2]), (21, .int .i64 i)]) (fun _ => []) (fun i => 0 ≤ i ∧ i ≤ 3 ∧ ∀ j, 0 ≤ j → j < i → errG a ≠ eC j ∧ errG b ≠ eC j) (fun i => (3 - i).toNat) 0 ⟨by omega, by omega, fun j h0 h1 => by omega⟩ (subs ⟨rfl, rfl, rfl, rfl, rfl, rfl, trivial⟩) (subs trivial) ?_
  intro i ⟨i0, i1, hn⟩
  refine cw_sr ?_
  refine steps_q rfl (q_bin rfl rfl rfl) ?_  -- gjk.go:106
  refine steps_nil ?_
  refine cw_seq ?_
  refine cw_cond _ rfl (fun hc1 => ?_) (fun hc1 => ?_)
  · -- yes 1
    have hi : i < 3 := of_decide_eq_true hc1
    refine cw_skip ?_
    refine at_then ?_
    refine cw_seq ?_
    refine cw_block ?_
    refine cw_sr ?_
    refine steps_q rfl (q_indexV1 arr128 one32 rfl rfl i0 (by omega) (eC_get i0 hi)) ?_  -- gjk.go:106
    refine steps_q rfl (q_assign rfl) ?_  -- gjk.go:106
    refine steps_nil ?_
    rcases three (errG a = eC i) (errG b = eC i) with hx | ⟨hx, hy⟩ | ⟨hx, hy⟩
    · -- way 5.a
      refine cw_sr ?_
      refine steps_q rfl (q_move rfl) ?_  -- gjk.go:107
      refine steps_q rfl (q_move rfl) ?_  -- gjk.go:107
      refine steps_q rfl (q_bin rfl rfl (eql_t hx)) ?_  -- gjk.go:107
      refine steps_q rfl (q_move rfl) ?_  -- gjk.go:107
      refine steps_gn rfl rfl rfl rfl ?_  -- gjk.go:107
      refine steps_gn rfl rfl rfl rfl ?_  -- gjk.go:107
      refine steps_gn rfl rfl rfl rfl ?_  -- gjk.go:107
      refine steps_q rfl (q_pick_t rfl rfl) ?_  -- gjk.go:107
      refine steps_nil ?_
      refine cw_cond _ rfl (fun hc2 => ?_) (fun hc2 => ?_)
      · -- yes 2
        have hE := errL_hit i0 hi hn (.inl hx)
        rw [← hE]
        refine cw_sr ?_
        refine steps_q rfl (q_move rfl) ?_  -- gjk.go:108
        refine steps_q rfl (q_assign rfl) ?_  -- gjk.go:108
        refine steps_q rfl (q_assign rfl) ?_  -- gjk.go:108
        refine steps_nil ?_
        refine cw_ret ?_
        exact ret_st rfl (rv_tmp rfl (rv_tmp rfl rv_nil)) rfl (.inr ⟨by rw [hE]; exact eC_ne i, rfl, rfl⟩) fun w' hw => hw
      · cases hc2
    · -- way 5.b
      refine cw_sr ?_
      refine steps_q rfl (q_move rfl) ?_  -- gjk.go:107
      refine steps_q rfl (q_move rfl) ?_  -- gjk.go:107
      refine steps_q rfl (q_bin rfl rfl (eql_f hx)) ?_  -- gjk.go:107
      refine steps_q rfl (q_move rfl) ?_  -- gjk.go:107
      refine steps_gq rfl rfl rfl (q_move rfl) ?_  -- gjk.go:107
      refine steps_gq rfl rfl rfl (q_move rfl) ?_  -- gjk.go:107
      refine steps_gq rfl rfl rfl (q_bin rfl rfl (eql_t hy)) ?_  -- gjk.go:107
      refine steps_q rfl (q_pick_f rfl rfl) ?_  -- gjk.go:107
      refine steps_nil ?_
      refine cw_cond _ rfl (fun hc2 => ?_) (fun hc2 => ?_)
      · -- yes 2
        have hE := errL_hit i0 hi hn (.inr hy)
        rw [← hE]
        refine cw_sr ?_
        refine steps_q rfl (q_move rfl) ?_  -- gjk.go:108
        refine steps_q rfl (q_assign rfl) ?_  -- gjk.go:108
        refine steps_q rfl (q_assign rfl) ?_  -- gjk.go:108
        refine steps_nil ?_
        refine cw_ret ?_
        exact ret_st rfl (rv_tmp rfl (rv_tmp rfl rv_nil)) rfl (.inr ⟨by rw [hE]; exact eC_ne i, rfl, rfl⟩) fun w' hw => hw
      · cases hc2
    · -- way 5.c
      refine cw_sr ?_
      refine steps_q rfl (q_move rfl) ?_  -- gjk.go:107
      refine steps_q rfl (q_move rfl) ?_  -- gjk.go:107
      refine steps_q rfl (q_bin rfl rfl (eql_f hx)) ?_  -- gjk.go:107
      refine steps_q rfl (q_move rfl) ?_  -- gjk.go:107
      refine steps_gq rfl rfl rfl (q_move rfl) ?_  -- gjk.go:107
      refine steps_gq rfl rfl rfl (q_move rfl) ?_  -- gjk.go:107
      refine steps_gq rfl rfl rfl (q_bin rfl rfl (eql_f hy)) ?_  -- gjk.go:107
      refine steps_q rfl (q_pick_f rfl rfl) ?_  -- gjk.go:107
      refine steps_nil ?_
      refine cw_cond _ rfl (fun hc2 => ?_) (fun hc2 => ?_)
      · cases hc2
      · -- no 2
        refine cw_skip ?_
        refine at_then ?_
        refine cw_region ?_
        refine steps_q rfl (q_bin rfl rfl (add64 (by omega) (by omega))) ?_  -- gjk.go:106
        refine steps_q rfl (q_move rfl) ?_  -- gjk.go:106
        refine steps_nil ?_
        exact at_round (i + 1) ⟨by omega, by omega, hn_more hn hx hy⟩ (by omega) (subs ⟨rfl, rfl, rfl, rfl, rfl, rfl, trivial⟩) (subs trivial)
  · -- no 1
    have hi : ¬ i < 3 := of_decide_eq_false hc1
    obtain rfl : i = 3 := by omega
    obtain ⟨hE, ea, eb⟩ := errL_rest hn
    obtain ⟨oka, la1, la2⟩ := errG_ok.1 ea
    obtain ⟨okb, lb1, lb2⟩ := errG_ok.1 eb
    have hprod : a.length * b.length ≤ 256 * 256 := Nat.mul_le_mul la2 lb2
    have ep : ((a.length * b.length : Nat) : Int) = (a.length : Int) * b.length := by push_cast; rfl
    have hdl := dif_len a b
    refine cw_exit ?_
    refine at_then ?_
    refine cw_seq ?_
    refine cw_sr ?_
    refine steps_q rfl (q_move rfl) ?_  -- gjk.go:111
    refine steps_q rfl (q_lenSl Try.underlying22 rfl) ?_  -- gjk.go:111
    refine steps_q rfl (q_move rfl) ?_  -- gjk.go:111
    refine steps_q rfl (q_lenSl Try.underlying22 rfl) ?_  -- gjk.go:111
    refine steps_q rfl (q_bin rfl rfl (mul64 (by omega) (by omega))) ?_  -- gjk.go:111
    refine steps_q rfl (q_bin rfl rfl rfl) ?_  -- gjk.go:111
    refine steps_nil ?_
    refine cw_cond _ rfl (fun hc3 => ?_) (fun hc3 => ?_)
    · -- yes 3
      have h3 : (a.length : Int) * b.length > 256 := of_decide_eq_true hc3
      have hE3 : errL a b = 3 := by rw [hE, if_pos (by omega)]
      refine cw_sr ?_
      refine steps_q rfl (q_assign rfl) ?_  -- gjk.go:112
      refine steps_q rfl (q_assign rfl) ?_  -- gjk.go:112
      refine steps_nil ?_
      refine cw_ret ?_
      exact ret_st rfl (rv_tmp rfl (rv_tmp rfl rv_nil)) (by rw [← hE3]; rfl) (.inr ⟨by rw [hE3]; decide, rfl, rfl⟩) fun w' hw => hw
    · -- no 3
      have h3 : ¬ (a.length : Int) * b.length > 256 := of_decide_eq_false hc3
      have hle : a.length * b.length ≤ 256 := by omega
      rw [if_neg (by omega)] at hE
      refine cw_skip ?_
      refine at_then ?_
      refine cw_sr ?_
      refine steps_q rfl (q_assign rfl) ?_  -- gjk.go:114
      refine steps_nil ?_
      refine cw_seq ?_
      refine cw_sr ?_
      refine steps_q rfl (q_move rfl) ?_  -- gjk.go:115
      refine steps_q rfl (q_lenSl Try.underlying22 rfl) ?_  -- gjk.go:115
      refine steps_q rfl (q_move rfl) ?_  -- gjk.go:115
      refine steps_nil ?_
      refine cw_block ?_
      -- LOOP 2 writes [10, 12, 14, 42, 43, 44, 45, 46, 47, 48, 49, 50, 51, 52, 53, 54, 55, 56, 57, 58, 59, 60, 61, 62, 63, 64, 65, 66, 67, 68, 69, 70, 71, 72]  stores via [12, 14]  reads [1, 40, 41]
      refine cw_loop (S := Nat × SV) (fun s => [(1, .slice y b.length c'), (10, s.2.v (dif (a.take s.1) b).length), (40, .slice x a.length c), (41, .int .i64 a.length), (42, .int .i64 s.1)]) (fun s => s.2.l 66 38) (fun s => s.1 ≤ a.length ∧ s.2.ok 3 ((dif (a.take s.1) b).map Pt.l)) (fun s => a.length - s.1) (0, none) ⟨by dsimp only; omega, by simp [SV.ok, dif]⟩ (subs ⟨rfl, rfl, rfl, rfl, rfl, trivial⟩) (subs trivial) ?_
      rintro ⟨i, sv⟩ ⟨i1, hsv⟩
      dsimp only at i1 hsv
      conv => enter [7]; dsimp only
      conv => enter [8]; dsimp only
      refine cw_sr ?_
      refine steps_q rfl (q_bin rfl rfl rfl) ?_  -- gjk.go:115
      refine steps_nil ?_
      refine cw_seq ?_
      refine cw_cond _ rfl (fun hc4 => ?_) (fun hc4 => ?_)
      · -- yes 4
        have hi : (i : Int) < (a.length : Int) := of_decide_eq_true hc4
        obtain ⟨p, hp⟩ : ∃ p, a[i]? = some p := ⟨a[i]'(by omega), List.getElem?_eq_getElem (by omega)⟩
        have hpl : (a.map Pt.l)[(i : Int).toNat]? = some p.l := by rw [Int.toNat_natCast, List.getElem?_map, hp]; rfl
        have hpin := oka p (List.mem_of_getElem? hp)
        obtain ⟨bl, off, l0, fz, rfl, hb, hpt⟩ := hs.resolve_left (by intro h; rw [h] at hpl; simp at hpl)
        have hti := dif_take (b := b) hp
        have hil : (dif (a.take i) b).length = i * b.length := by rw [dif_len, List.length_take]; congr 1; omega
        have hsucc : (i + 1) * b.length ≤ a.length * b.length := Nat.mul_le_mul_right _ (by omega)
        rw [Nat.add_mul, Nat.one_mul] at hsucc
        refine cw_skip ?_
        refine at_then ?_
        refine cw_seq ?_
        refine cw_block ?_
        refine cw_sr ?_
        refine steps_q rfl (q_indexSl slc22 rfl rfl (by omega) hi) ?_  -- gjk.go:115
        refine steps_q rfl (q_loadAo agg38 rfl hb (by simp) (hpt _ _ hpl)) ?_  -- gjk.go:115
        refine steps_s (s_allocA 12 rfl zer38 fun b12 => ?_)  -- gjk.go:115
        refine steps_s (s_storeW 12 siz38 rfl rfl rfl rfl rfl rfl ?_)  -- gjk.go:115
        refine steps_nil ?_
        refine cw_sr ?_
        refine steps_q rfl (q_move rfl) ?_  -- gjk.go:116
        refine steps_q rfl (q_lenSl Try.underlying22 rfl) ?_  -- gjk.go:116
        refine steps_q rfl (q_move rfl) ?_  -- gjk.go:116
        refine steps_nil ?_
        refine cw_block ?_
        -- LOOP 3 writes [10, 14, 48, 49, 50, 51, 52, 53, 54, 55, 56, 57, 58, 59, 60, 61, 62, 63, 64, 65, 66, 67, 68, 69, 70, 71]  stores via [14]  reads [12, 46, 47]
        refine cw_loop (S := Nat × SV) (fun s => [(1, .slice y b.length c'), (10, s.2.v ((dif (a.take i) b).length + s.1)), (12, .pointer (some ⟨b12, 0, none⟩)), (40, .slice (some ⟨bl, off, none⟩) a.length c), (41, .int .i64 a.length), (42, .int .i64 i), (46, .slice y b.length c'), (47, .int .i64 b.length), (48, .int .i64 s.1)]) (fun s => ([(12, (b12, .cells p.l.toArray 38 (0, 0)))] : HL) ++ s.2.l 66 38) (fun s => s.1 ≤ b.length ∧ s.2.ok 3 ((dif (a.take i) b ++ (b.take s.1).map (subP p)).map Pt.l)) (fun s => b.length - s.1) (0, sv) ⟨by dsimp only; omega, by simpa using hsv⟩ (subs ⟨rfl, rfl, rfl, rfl, rfl, rfl, rfl, rfl, rfl, trivial⟩) (by rcases sv with _ | ⟨g1, cur1, cap1⟩; exact (subs ⟨rfl, trivial⟩); exact (subs ⟨rfl, rfl, trivial⟩)) ?_
        rintro ⟨j, sv2⟩ ⟨j1, hsv2⟩
        dsimp only at j1 hsv2
        conv => enter [7]; dsimp only
        conv => enter [8]; dsimp only
        have hjl : ((dif (a.take i) b ++ (b.take j).map (subP p)).map Pt.l).length = (dif (a.take i) b).length + j := by rw [List.length_map, List.length_append, List.length_map, List.length_take]; omega
        refine cw_sr ?_
        refine steps_q rfl (q_bin rfl rfl rfl) ?_  -- gjk.go:116
        refine steps_nil ?_
        refine cw_seq ?_
        refine cw_cond _ rfl (fun hc5 => ?_) (fun hc5 => ?_)
        · -- yes 5
          have hj : (j : Int) < (b.length : Int) := of_decide_eq_true hc5
          obtain ⟨q, hq⟩ : ∃ q, b[j]? = some q := ⟨b[j]'(by omega), List.getElem?_eq_getElem (by omega)⟩
          have hql : (b.map Pt.l)[(j : Int).toNat]? = some q.l := by rw [Int.toNat_natCast, List.getElem?_map, hq]; rfl
          have hqin := okb q (List.mem_of_getElem? hq)
          obtain ⟨bl', off', l0', fz', rfl, hb', hpt'⟩ := hs'.resolve_left (by intro h; rw [h] at hql; simp at hql)
          have htj := take_more (f := subP p) hq
          obtain ⟨px, py, pz⟩ := hpin
          obtain ⟨qx, qy, qz⟩ := hqin
          refine cw_skip ?_
          refine at_then ?_
          refine cw_seq ?_
          refine cw_block ?_
          refine cw_sr ?_
          refine steps_q rfl (q_indexSl slc22 rfl rfl (by omega) hj) ?_  -- gjk.go:116
          refine steps_q rfl (q_loadAo agg38 rfl hb' (by simp) (hpt' _ _ hql)) ?_  -- gjk.go:116
          refine steps_s (s_allocA 14 rfl zer38 fun b14 => ?_)  -- gjk.go:116
          refine steps_s (s_storeW 14 siz38 rfl rfl rfl rfl rfl rfl ?_)  -- gjk.go:116
          refine steps_nil ?_
          rcases sv2 with _ | ⟨g1, cur1, cap1⟩
          · -- way 17.a
            refine cw_region ?_
            refine steps_q rfl (q_move rfl) ?_  -- gjk.go:117
            refine steps_q rfl (q_field fld38_0 rfl) ?_  -- gjk.go:117
            refine steps_q rfl (q_load1 12 one2 rfl rfl rfl) ?_  -- gjk.go:117
            refine steps_q rfl (q_field fld38_0 rfl) ?_  -- gjk.go:117
            refine steps_q rfl (q_load1 14 one2 rfl rfl rfl) ?_  -- gjk.go:117
            refine steps_q rfl (q_bin rfl rfl (sub64 (by omega) (by omega))) ?_  -- gjk.go:117
            refine steps_q rfl (q_field fld38_1 rfl) ?_  -- gjk.go:117
            refine steps_q rfl (q_load1 12 one2 rfl rfl rfl) ?_  -- gjk.go:117
            refine steps_q rfl (q_field fld38_1 rfl) ?_  -- gjk.go:117
            refine steps_q rfl (q_load1 14 one2 rfl rfl rfl) ?_  -- gjk.go:117
            refine steps_q rfl (q_bin rfl rfl (sub64 (by omega) (by omega))) ?_  -- gjk.go:117
            refine steps_q rfl (q_field fld38_2 rfl) ?_  -- gjk.go:117
            refine steps_q rfl (q_load1 12 one2 rfl rfl rfl) ?_  -- gjk.go:117
            refine steps_q rfl (q_field fld38_2 rfl) ?_  -- gjk.go:117
            refine steps_q rfl (q_load1 14 one2 rfl rfl rfl) ?_  -- gjk.go:117
            refine steps_q rfl (q_bin rfl rfl (sub64 (by omega) (by omega))) ?_  -- gjk.go:117
            refine steps_q rfl (q_build (vs := [(0, _), (1, _), (2, _)]) rfl rfl (bldP (subP p q))) ?_  -- gjk.go:117
            refine steps_s (s_buildSl 69 rfl rfl rfl (bslP (subP p q)) fun b69 => ?_)  -- gjk.go:117
            refine steps_s (s_appendN 66 69 none ((dif (a.take i) b).length + j) ((dif (a.take i) b ++ (b.take j).map (subP p)).map Pt.l) (subP p q).l hjl elt22 rfl rfl hsv2 (subs trivial) rfl rfl rfl rfl (by omega) (by unfold maxLen; omega) fun g1 cur1 cap1 hk1 => ?_)  -- gjk.go:117
            refine steps_q rfl (q_assign rfl) ?_  -- gjk.go:117
            refine steps_nil ?_
            refine at_then ?_
            refine cw_region ?_
            refine steps_q rfl (q_bin rfl rfl (add64 (by omega) (by omega))) ?_  -- gjk.go:116
            refine steps_q rfl (q_move rfl) ?_  -- gjk.go:116
            refine steps_nil ?_
            exact at_round (j + 1, some (g1, cur1, cap1)) ⟨by dsimp only; omega, by dsimp only; rw [htj, ← List.append_assoc, List.map_append]; exact hk1⟩ (by dsimp only; omega) (subs ⟨rfl, rfl, rfl, rfl, rfl, rfl, rfl, rfl, by dsimp only; rw [show ((j + 1 : Nat) : Int) = j + 1 by omega]; rfl, trivial⟩) (subs ⟨rfl, rfl, trivial⟩)
          · -- way 17.b
            refine cw_region ?_
            refine steps_q rfl (q_move rfl) ?_  -- gjk.go:117
            refine steps_q rfl (q_field fld38_0 rfl) ?_  -- gjk.go:117
            refine steps_q rfl (q_load1 12 one2 rfl rfl rfl) ?_  -- gjk.go:117
            refine steps_q rfl (q_field fld38_0 rfl) ?_  -- gjk.go:117
            refine steps_q rfl (q_load1 14 one2 rfl rfl rfl) ?_  -- gjk.go:117
            refine steps_q rfl (q_bin rfl rfl (sub64 (by omega) (by omega))) ?_  -- gjk.go:117
            refine steps_q rfl (q_field fld38_1 rfl) ?_  -- gjk.go:117
            refine steps_q rfl (q_load1 12 one2 rfl rfl rfl) ?_  -- gjk.go:117
            refine steps_q rfl (q_field fld38_1 rfl) ?_  -- gjk.go:117
            refine steps_q rfl (q_load1 14 one2 rfl rfl rfl) ?_  -- gjk.go:117
            refine steps_q rfl (q_bin rfl rfl (sub64 (by omega) (by omega))) ?_  -- gjk.go:117
            refine steps_q rfl (q_field fld38_2 rfl) ?_  -- gjk.go:117
            refine steps_q rfl (q_load1 12 one2 rfl rfl rfl) ?_  -- gjk.go:117
            refine steps_q rfl (q_field fld38_2 rfl) ?_  -- gjk.go:117
            refine steps_q rfl (q_load1 14 one2 rfl rfl rfl) ?_  -- gjk.go:117
            refine steps_q rfl (q_bin rfl rfl (sub64 (by omega) (by omega))) ?_  -- gjk.go:117
            refine steps_q rfl (q_build (vs := [(0, _), (1, _), (2, _)]) rfl rfl (bldP (subP p q))) ?_  -- gjk.go:117
            refine steps_s (s_buildSl 69 rfl rfl rfl (bslP (subP p q)) fun b69 => ?_)  -- gjk.go:117
            refine steps_s (s_appendN 66 69 (some (g1, cur1, cap1)) ((dif (a.take i) b).length + j) ((dif (a.take i) b ++ (b.take j).map (subP p)).map Pt.l) (subP p q).l hjl elt22 rfl rfl hsv2 (subs ⟨rfl, trivial⟩) rfl rfl rfl rfl (by omega) (by unfold maxLen; omega) fun g1 cur1 cap1 hk1 => ?_)  -- gjk.go:117
            refine steps_q rfl (q_assign rfl) ?_  -- gjk.go:117
            refine steps_nil ?_
            refine at_then ?_
            refine cw_region ?_
            refine steps_q rfl (q_bin rfl rfl (add64 (by omega) (by omega))) ?_  -- gjk.go:116
            refine steps_q rfl (q_move rfl) ?_  -- gjk.go:116
            refine steps_nil ?_
            exact at_round (j + 1, some (g1, cur1, cap1)) ⟨by dsimp only; omega, by dsimp only; rw [htj, ← List.append_assoc, List.map_append]; exact hk1⟩ (by dsimp only; omega) (subs ⟨rfl, rfl, rfl, rfl, rfl, rfl, rfl, rfl, by dsimp only; rw [show ((j + 1 : Nat) : Int) = j + 1 by omega]; rfl, trivial⟩) (subs ⟨rfl, rfl, trivial⟩)
        · -- no 5
          have hj : ¬ (j : Int) < (b.length : Int) := of_decide_eq_false hc5
          have hjb : j = b.length := by omega
          subst hjb
          rw [List.take_of_length_le (Nat.le_refl _), ← hti] at hsv2 hjl
          rw [List.length_map] at hjl
          refine cw_exit ?_
          refine at_then ?_
          refine cw_region ?_
          refine steps_q rfl (q_bin rfl rfl (add64 (by omega) (by omega))) ?_  -- gjk.go:115
          refine steps_q rfl (q_move rfl) ?_  -- gjk.go:115
          refine steps_nil ?_
          exact at_round (i + 1, sv2) ⟨by dsimp only; omega, hsv2⟩ (by dsimp only; omega) (subs ⟨rfl, by dsimp only; rw [hjl]; rfl, rfl, rfl, by dsimp only; rw [show ((i + 1 : Nat) : Int) = i + 1 by omega]; rfl, trivial⟩) (by rcases sv2 with _ | ⟨g1, cur1, cap1⟩; exact (subs trivial); exact (subs ⟨rfl, trivial⟩))
      · -- no 4
        have hi : ¬ (i : Int) < (a.length : Int) := of_decide_eq_false hc4
        rw [List.take_of_length_le (by omega)] at hsv ⊢
        have hpos : 1 * 1 ≤ a.length * b.length := Nat.mul_le_mul la1 lb1
        rcases sv with _ | ⟨g1, cur1, cap1⟩
        · exfalso
          have := SV.len0 hsv
          rw [List.length_map] at this
          omega
        refine cw_exit ?_
        refine at_then ?_
        refine cw_seq ?_
        refine cw_sr ?_
        refine steps_q rfl (q_move rfl) ?_  -- gjk.go:120
        refine steps_q rfl (q_call ent29 rfl rfl (fun w' hw => by have h0 : PtsAt w' (.slice (some ⟨g1, 0, none⟩) (dif a b).length cap1) (dif a b) := (by have := SlAt.own (q := some (g1, cur1, cap1)) (i := 66) (e := 38) hw (subs ⟨rfl, trivial⟩) hsv; rwa [List.length_map] at this); simpa using gjk_fine w' h0 (by omega))) ?_  -- gjk.go:120
        rw [← hE]
        refine steps_q rfl (q_assign rfl) ?_  -- gjk.go:120
        refine steps_nil ?_
        refine cw_sr ?_
        refine steps_q rfl (q_move rfl) ?_  -- gjk.go:120
        refine steps_q rfl (q_bin rfl rfl rfl) ?_  -- gjk.go:120
        refine steps_nil ?_
        refine cw_cond _ rfl (fun hc6 => ?_) (fun hc6 => ?_)
        · -- yes 6
          have h6 : errL a b ≠ 0 := by simpa using hc6
          refine cw_sr ?_
          refine steps_q rfl (q_move rfl) ?_  -- gjk.go:121
          refine steps_q rfl (q_assign rfl) ?_  -- gjk.go:121
          refine steps_q rfl (q_assign rfl) ?_  -- gjk.go:121
          refine steps_nil ?_
          refine cw_ret ?_
          exact ret_st rfl (rv_tmp rfl (rv_tmp rfl rv_nil)) rfl (.inr ⟨h6, rfl, rfl⟩) fun w' hw => hw.weaken (subs trivial)
        · -- no 6
          have h6 : errL a b = 0 := by simpa using hc6
          refine cw_skip ?_
          refine at_then ?_
          refine cw_sr ?_
          refine steps_q rfl (q_move rfl) ?_  -- gjk.go:123
          refine steps_q rfl (q_assign rfl) ?_  -- gjk.go:123
          refine steps_q rfl (q_assign rfl) ?_  -- gjk.go:123
          refine steps_nil ?_
          refine cw_ret ?_
          exact ret_st rfl (rv_tmp rfl (rv_tmp rfl rv_nil)) rfl (.inl ⟨h6, g1, cur1, cap1, rfl, rfl, hsv⟩) fun w' hw => hw.weaken (subs ⟨rfl, trivial⟩)
end Go.Proofs.Ytomdahjakkifbaa

/-
  The walks of package gjk: Apart, Meets; of the law: same, choices, box, awake.
-/
namespace Go.Proofs.Ytomdahjakkifbaa
open Go Go.NP Go.RowKit Go.Proofs
set_option maxRecDepth 100000

theorem errL_zero {a b : List Pt} (h : errL a b = 0) : errG (dif a b) = 0 := by
  unfold errL at h
  split at h
  · omega
  · split at h
    · omega
    · split at h
      · omega
      · split at h
        · omega
        · exact h
def LS1 (a b : List Pt) (v : Value) (Ln : HL) : Prop := ∃ g cur cap, v = .tuple #[.slice (some ⟨g, 0, none⟩) (dif a b).length cap, .int .i64 0] ∧ Ln = [(66, (g, .cells cur.toArray 38 (0, 0)))] ∧ SV.ok 3 (some (g, cur, cap)) ((dif a b).map Pt.l)
theorem gjk_Less_ok {a b : List Pt} {u v : Value} (w : World) (hu : PtsAt w u a) (hv : PtsAt w v b) (hla : a.length ≤ 9223372036854775807) (hlb : b.length ≤ 9223372036854775807) (he : errL a b = 0) :
    Calls Try.prog 56 #[u, v] w fun e w' => ∃ v Ln, e = .returned v ∧ LS1 a b v Ln ∧ St w [] w' Ln :=
  (gjk_Less w hu hv hla hlb).mono fun _ _ ⟨v, Ln, h1, h2, h3⟩ => ⟨v, Ln, h1, by
    rcases h2 with ⟨_, h⟩ | ⟨h, _⟩
    · exact h
    · exact absurd he h, h3⟩
theorem gjk_Less_bad {a b : List Pt} {u v : Value} (w : World) (hu : PtsAt w u a) (hv : PtsAt w v b) (hla : a.length ≤ 9223372036854775807) (hlb : b.length ≤ 9223372036854775807) (he : errL a b ≠ 0) :
    Calls Try.prog 56 #[u, v] w fun e w' => e = .returned (.tuple #[.slice none 0 0, .int .i64 (errL a b)]) ∧ Below w.heap.size w w' :=
  (gjk_Less w hu hv hla hlb).mono fun _ _ ⟨v, Ln, h1, h2, h3⟩ => by
    rcases h2 with ⟨h, _⟩ | ⟨_, h, _⟩
    · exact absurd h he
    · subst h; exact ⟨h1, h3.below⟩
theorem gjk_Apart_ok {a b : List Pt} {u v : Value} (w : World) (hu : PtsAt w u a) (hv : PtsAt w v b) (hla : a.length ≤ 9223372036854775807) (hlb : b.length ≤ 9223372036854775807) (he : errL a b = 0) :
    Calls Try.prog 32 #[u, v] w fun e w' => ∃ v Ln, e = .returned v ∧ GN (dif a b) v Ln ∧ St w [] w' Ln := by
  have hu0 := hu
  have hv0 := hv
  obtain ⟨x, c, rfl, hs⟩ := hu
  obtain ⟨y, c', rfl, hs'⟩ := hv
  rw [List.length_map] at hu0 ⊢
  rw [List.length_map] at hv0 ⊢
  refine calls_of Try.func32 rfl Try.ntmps32 rfl (St.start w) (args := [.slice x a.length c, .slice y b.length c']) ?_
  refine cw_sr ?_
  refine steps_s (s_allocA 4 rfl zer31 fun b4 => ?_)  -- gjk.go:127
  refine steps_q rfl (q_assign rfl) ?_  -- gjk.go:127
  refine steps_nil ?_
  refine cw_sr ?_
  refine steps_q rfl (q_move rfl) ?_  -- gjk.go:128
  refine steps_q rfl (q_move rfl) ?_  -- gjk.go:128
  refine steps_s (s_callSt ent56 rfl rfl rfl (R := LS1 a b) (fun w' hw => by simpa using gjk_Less_ok w' (SlAt.st hu0 hw) (SlAt.st hv0 hw) hla hlb he) fun v Ln hZ => ?_)  -- gjk.go:128
  obtain ⟨g, cur, cap, rfl, rfl, hsv⟩ := hZ
  refine steps_q rfl (q_move rfl) ?_  -- gjk.go:128
  refine steps_q rfl (q_extract rfl rfl) ?_  -- gjk.go:128
  refine steps_q rfl (q_extract rfl rfl) ?_  -- gjk.go:128
  refine steps_q rfl (q_assign rfl) ?_  -- gjk.go:128
  refine steps_q rfl (q_assign rfl) ?_  -- gjk.go:128
  refine steps_nil ?_
  refine cw_seq ?_
  refine cw_sr ?_
  refine steps_q rfl (q_move rfl) ?_  -- gjk.go:129
  refine steps_q rfl (q_bin rfl rfl (neq_f rfl)) ?_  -- gjk.go:129
  refine steps_nil ?_
  refine cw_cond _ rfl (fun hc1 => ?_) (fun hc1 => ?_)
  · cases hc1
  · -- no 1
    refine cw_skip ?_
    refine at_then ?_
    refine cw_sr ?_
    refine steps_q rfl (q_move rfl) ?_  -- gjk.go:132
    refine steps_s (s_callSt ent6 rfl rfl rfl (R := GN (dif a b)) (fun w' hw => by have h0 : PtsAt w' (.slice (some ⟨g, 0, none⟩) (dif a b).length cap) (dif a b) := (by have := SlAt.own (q := some (g, cur, cap)) (i := 66) (e := 38) hw (subs ⟨rfl, trivial⟩) hsv; rwa [List.length_map] at this); simpa using gjk_Near_ok w' h0 (errL_zero he)) fun v Ln hZ => ?_)  -- gjk.go:132
    obtain ⟨own, g2, cur2, cap2, hE, rfl, rfl, hsv2⟩ := hZ
    refine steps_q rfl (q_extract rfl rfl) ?_  -- gjk.go:132
    refine steps_q rfl (q_extract rfl rfl) ?_  -- gjk.go:132
    refine steps_s (s_storeW 4 siz31 rfl rfl rfl rfl rfl rfl ?_)  -- gjk.go:132
    refine steps_q rfl (q_assign rfl) ?_  -- gjk.go:132
    refine steps_nil ?_
    refine cw_ret ?_
    exact ret_st rfl (rv_agg 4 agg31 rfl rfl rfl (rv_tmp rfl rv_nil)) rfl ⟨own, g2, cur2, cap2, hE, rfl, rfl, hsv2⟩ fun w' hw => hw.only (j := 63) rfl
theorem gjk_Apart_bad {a b : List Pt} {u v : Value} (w : World) (hu : PtsAt w u a) (hv : PtsAt w v b) (hla : a.length ≤ 9223372036854775807) (hlb : b.length ≤ 9223372036854775807) (he : errL a b ≠ 0) :
    Calls Try.prog 32 #[u, v] w fun e w' => e = .returned (.tuple #[.agg (Nr.l nrZ).toArray, .int .i64 (errL a b)]) ∧ Below w.heap.size w w' := by
  have hu0 := hu
  have hv0 := hv
  obtain ⟨x, c, rfl, hs⟩ := hu
  obtain ⟨y, c', rfl, hs'⟩ := hv
  rw [List.length_map] at hu0 ⊢
  rw [List.length_map] at hv0 ⊢
  refine calls_of Try.func32 rfl Try.ntmps32 rfl (St.start w) (args := [.slice x a.length c, .slice y b.length c']) ?_
  refine cw_sr ?_
  refine steps_s (s_allocA 4 rfl zer31 fun b4 => ?_)  -- gjk.go:127
  refine steps_q rfl (q_assign rfl) ?_  -- gjk.go:127
  refine steps_nil ?_
  refine cw_sr ?_
  refine steps_q rfl (q_move rfl) ?_  -- gjk.go:128
  refine steps_q rfl (q_move rfl) ?_  -- gjk.go:128
  refine steps_q rfl (q_call ent56 rfl rfl (fun w' hw => by simpa using gjk_Less_bad w' (SlAt.st hu0 hw) (SlAt.st hv0 hw) hla hlb he)) ?_  -- gjk.go:128
  refine steps_q rfl (q_move rfl) ?_  -- gjk.go:128
  refine steps_q rfl (q_extract rfl rfl) ?_  -- gjk.go:128
  refine steps_q rfl (q_extract rfl rfl) ?_  -- gjk.go:128
  refine steps_q rfl (q_assign rfl) ?_  -- gjk.go:128
  refine steps_q rfl (q_assign rfl) ?_  -- gjk.go:128
  refine steps_nil ?_
  refine cw_seq ?_
  refine cw_sr ?_
  refine steps_q rfl (q_move rfl) ?_  -- gjk.go:129
  refine steps_q rfl (q_bin rfl rfl (neq_t he)) ?_  -- gjk.go:129
  refine steps_nil ?_
  refine cw_cond _ rfl (fun hc1 => ?_) (fun hc1 => ?_)
  · -- yes 1
    refine cw_sr ?_
    refine steps_q rfl (q_build (vs := []) rfl rfl bldN0) ?_  -- gjk.go:130
    refine steps_q rfl (q_move rfl) ?_  -- gjk.go:130
    refine steps_s (s_storeW 4 siz31 rfl rfl rfl rfl rfl rfl ?_)  -- gjk.go:130
    refine steps_q rfl (q_assign rfl) ?_  -- gjk.go:130
    refine steps_nil ?_
    refine cw_ret ?_
    exact ret_pure rfl (rv_agg 4 agg31 rfl rfl rfl (rv_tmp rfl rv_nil)) rfl
  · cases hc1
theorem bldS0L : ∀ w, (Instr.build 28 [].toArray).run Try.prog w = .ok (.agg (Sp.l ⟨0, 0, 0⟩).toArray) w := fun w => by kernel_rfl
/-- What Meets hands back. -/
def MK (ps : List Pt) (v : Value) (Ln : HL) : Prop := ∃ own, Ends ps own ∧ v = .tuple #[.bool (decide ((nrOf (sel ps own)).n = ⟨0, 0, 0⟩)), .int .i64 0] ∧ Ln = []
theorem ends_fits {ps : List Pt} (hok : okPts ps) {own : List Int} (h : Ends ps own) : (nrOf (sel ps own)).n.In Mid ∧ 1 ≤ (nrOf (sel ps own)).d ∧ (nrOf (sel ps own)).d ≤ Mid :=
  nrOf_bd (sel_ok hok h.1.at') h.1.good.ne h.1.good.le (by have := h.1.good.dpos; omega)
theorem in_fits {n : Sp} (h : n.In Mid) : n.fits := h.fits (by decide)
theorem gjk_Meets_ok {a b : List Pt} {u v : Value} (w : World) (hu : PtsAt w u a) (hv : PtsAt w v b) (hla : a.length ≤ 9223372036854775807) (hlb : b.length ≤ 9223372036854775807) (he : errL a b = 0) :
    Calls Try.prog 17 #[u, v] w fun e w' => ∃ v Ln, e = .returned v ∧ MK (dif a b) v Ln ∧ St w [] w' Ln := by
  have hu0 := hu
  have hv0 := hv
  obtain ⟨x, c, rfl, hs⟩ := hu
  obtain ⟨y, c', rfl, hs'⟩ := hv
  rw [List.length_map] at hu0 ⊢
  rw [List.length_map] at hv0 ⊢
  have hokd := (errG_ok.1 (errL_zero he)).1
  refine calls_of Try.func17 rfl Try.ntmps17 rfl (St.start w) (args := [.slice x a.length c, .slice y b.length c']) ?_
  refine cw_sr ?_
  refine steps_q rfl (q_assign rfl) ?_  -- gjk.go:136
  refine steps_q rfl (q_assign rfl) ?_  -- gjk.go:136
  refine steps_nil ?_
  refine cw_sr ?_
  refine steps_q rfl (q_move rfl) ?_  -- gjk.go:137
  refine steps_q rfl (q_move rfl) ?_  -- gjk.go:137
  refine steps_s (s_callSt ent32 rfl rfl rfl (R := GN (dif a b)) (fun w' hw => by simpa using gjk_Apart_ok w' (SlAt.st hu0 hw) (SlAt.st hv0 hw) hla hlb he) fun v Ln hZ => ?_)  -- gjk.go:137
  obtain ⟨own, g2, cur2, cap2, hE, rfl, rfl, hsv2⟩ := hZ
  have hf := ends_fits hokd hE
  refine steps_q rfl (q_move rfl) ?_  -- gjk.go:137
  refine steps_q rfl (q_extract rfl rfl) ?_  -- gjk.go:137
  refine steps_q rfl (q_extract rfl rfl) ?_  -- gjk.go:137
  refine steps_s (s_allocA 6 rfl zer31 fun b6 => ?_)  -- gjk.go:137
  refine steps_s (s_storeW 6 siz31 rfl rfl rfl rfl rfl rfl ?_)  -- gjk.go:137
  refine steps_q rfl (q_assign rfl) ?_  -- gjk.go:137
  refine steps_nil ?_
  refine cw_sr ?_
  refine steps_q rfl (q_move rfl) ?_  -- gjk.go:138
  refine steps_q rfl (q_bin rfl rfl (eql_t rfl)) ?_  -- gjk.go:138
  refine steps_q rfl (q_move rfl) ?_  -- gjk.go:138
  refine steps_gq rfl rfl rfl (q_field fld31_0 rfl) ?_  -- gjk.go:138
  refine steps_gq rfl rfl rfl (q_loadA 6 agg28 rfl rfl (nr0 _)) ?_  -- gjk.go:138
  refine steps_gq rfl rfl rfl (q_build (vs := []) rfl rfl bldS0L) ?_  -- gjk.go:138
  refine steps_gq rfl rfl rfl (q_aeql rfl rfl (eqlS (in_fits hf.1) z3fits)) ?_  -- gjk.go:138
  refine steps_q rfl (q_pick_t rfl rfl) ?_  -- gjk.go:138
  refine steps_q rfl (q_move rfl) ?_  -- gjk.go:138
  refine steps_q rfl (q_assign rfl) ?_  -- gjk.go:138
  refine steps_q rfl (q_assign rfl) ?_  -- gjk.go:138
  refine steps_nil ?_
  refine cw_ret ?_
  exact ret_st rfl (rv_tmp rfl (rv_tmp rfl rv_nil)) rfl ⟨own, hE, rfl, rfl⟩ fun w' hw => hw.weaken (subs trivial)
theorem gjk_Meets_bad {a b : List Pt} {u v : Value} (w : World) (hu : PtsAt w u a) (hv : PtsAt w v b) (hla : a.length ≤ 9223372036854775807) (hlb : b.length ≤ 9223372036854775807) (he : errL a b ≠ 0) :
    Calls Try.prog 17 #[u, v] w fun e w' => e = .returned (.tuple #[.bool false, .int .i64 (errL a b)]) ∧ Below w.heap.size w w' := by
  have hu0 := hu
  have hv0 := hv
  obtain ⟨x, c, rfl, hs⟩ := hu
  obtain ⟨y, c', rfl, hs'⟩ := hv
  rw [List.length_map] at hu0 ⊢
  rw [List.length_map] at hv0 ⊢
  refine calls_of Try.func17 rfl Try.ntmps17 rfl (St.start w) (args := [.slice x a.length c, .slice y b.length c']) ?_
  refine cw_sr ?_
  refine steps_q rfl (q_assign rfl) ?_  -- gjk.go:136
  refine steps_q rfl (q_assign rfl) ?_  -- gjk.go:136
  refine steps_nil ?_
  refine cw_sr ?_
  refine steps_q rfl (q_move rfl) ?_  -- gjk.go:137
  refine steps_q rfl (q_move rfl) ?_  -- gjk.go:137
  refine steps_q rfl (q_call ent32 rfl rfl (fun w' hw => by simpa using gjk_Apart_bad w' (SlAt.st hu0 hw) (SlAt.st hv0 hw) hla hlb he)) ?_  -- gjk.go:137
  refine steps_q rfl (q_move rfl) ?_  -- gjk.go:137
  refine steps_q rfl (q_extract rfl rfl) ?_  -- gjk.go:137
  refine steps_q rfl (q_extract rfl rfl) ?_  -- gjk.go:137
  refine steps_s (s_allocA 6 rfl zer31 fun b6 => ?_)  -- gjk.go:137
  refine steps_s (s_storeW 6 siz31 rfl rfl rfl rfl rfl rfl ?_)  -- gjk.go:137
  refine steps_q rfl (q_assign rfl) ?_  -- gjk.go:137
  refine steps_nil ?_
  refine cw_sr ?_
  refine steps_q rfl (q_move rfl) ?_  -- gjk.go:138
  refine steps_q rfl (q_bin rfl rfl (eql_f he)) ?_  -- gjk.go:138
  refine steps_q rfl (q_move rfl) ?_  -- gjk.go:138
  refine steps_gn rfl rfl rfl rfl ?_  -- gjk.go:138
  refine steps_gn rfl rfl rfl rfl ?_  -- gjk.go:138
  refine steps_gn rfl rfl rfl rfl ?_  -- gjk.go:138
  refine steps_gn rfl rfl rfl rfl ?_  -- gjk.go:138
  refine steps_q rfl (q_pick_f rfl rfl) ?_  -- gjk.go:138
  refine steps_q rfl (q_move rfl) ?_  -- gjk.go:138
  refine steps_q rfl (q_assign rfl) ?_  -- gjk.go:138
  refine steps_q rfl (q_assign rfl) ?_  -- gjk.go:138
  refine steps_nil ?_
  refine cw_ret ?_
  exact ret_pure rfl (rv_tmp rfl (rv_tmp rfl rv_nil)) rfl

/-! ## The law's own functions -/
def sameB (a b : Nr) : Bool := decide (a.n = b.n ∧ a.d = b.d)
theorem law_same {a b : Nr} (fa : a.n.fits) (fb : b.n.fits) (da : Fits a.d) (db : Fits b.d) : PureF Try.prog 8 [.agg a.l.toArray, .agg b.l.toArray] (.bool (sameB a b)) := by
  refine pure_of Try.func8 rfl Try.ntmps8 rfl fun w => ?_
  by_cases hn : a.n = b.n
  · rw [show sameB a b = decide (a.d = b.d) by unfold sameB; simp [hn]]
    refine cw_sr ?_
    refine steps_s (s_boxA 2 rfl rfl fun b2 => ?_)  -- law.go:31
    refine steps_s (s_boxA 3 rfl rfl fun b3 => ?_)  -- law.go:31
    refine steps_q rfl (q_assign rfl) ?_  -- law.go:31
    refine steps_nil ?_
    refine cw_sr ?_
    refine steps_q rfl (q_field fld31_0 rfl) ?_  -- law.go:31
    refine steps_q rfl (q_loadA 2 agg28 rfl rfl (nr0 a)) ?_  -- law.go:31
    refine steps_q rfl (q_field fld31_0 rfl) ?_  -- law.go:31
    refine steps_q rfl (q_loadA 3 agg28 rfl rfl (nr0 b)) ?_  -- law.go:31
    refine steps_q rfl (q_aeql rfl rfl (eqlS fa fb)) ?_  -- law.go:31
    rw [decide_eq_true hn]
    refine steps_q rfl (q_move rfl) ?_  -- law.go:31
    refine steps_gq rfl rfl rfl (q_field fld31_1 rfl) ?_  -- law.go:31
    refine steps_gq rfl rfl rfl (q_loadA 2 agg26 rfl rfl (nr1 a)) ?_  -- law.go:31
    refine steps_gq rfl rfl rfl (q_field fld31_1 rfl) ?_  -- law.go:31
    refine steps_gq rfl rfl rfl (q_loadA 3 agg26 rfl rfl (nr1 b)) ?_  -- law.go:31
    refine steps_gq rfl rfl rfl (q_aeql rfl rfl (eqlW da db)) ?_  -- law.go:31
    refine steps_q rfl (q_pick_t rfl rfl) ?_  -- law.go:31
    refine steps_q rfl (q_assign rfl) ?_  -- law.go:31
    refine steps_nil ?_
    refine cw_ret ?_
    exact ret_pure rfl (rv_tmp rfl rv_nil) rfl
  · rw [show sameB a b = false by unfold sameB; simp [hn]]
    refine cw_sr ?_
    refine steps_s (s_boxA 2 rfl rfl fun b2 => ?_)  -- law.go:31
    refine steps_s (s_boxA 3 rfl rfl fun b3 => ?_)  -- law.go:31
    refine steps_q rfl (q_assign rfl) ?_  -- law.go:31
    refine steps_nil ?_
    refine cw_sr ?_
    refine steps_q rfl (q_field fld31_0 rfl) ?_  -- law.go:31
    refine steps_q rfl (q_loadA 2 agg28 rfl rfl (nr0 a)) ?_  -- law.go:31
    refine steps_q rfl (q_field fld31_0 rfl) ?_  -- law.go:31
    refine steps_q rfl (q_loadA 3 agg28 rfl rfl (nr0 b)) ?_  -- law.go:31
    refine steps_q rfl (q_aeql rfl rfl (eqlS fa fb)) ?_  -- law.go:31
    rw [decide_eq_false hn]
    refine steps_q rfl (q_move rfl) ?_  -- law.go:31
    refine steps_gn rfl rfl rfl rfl ?_  -- law.go:31
    refine steps_gn rfl rfl rfl rfl ?_  -- law.go:31
    refine steps_gn rfl rfl rfl rfl ?_  -- law.go:31
    refine steps_gn rfl rfl rfl rfl ?_  -- law.go:31
    refine steps_gn rfl rfl rfl rfl ?_  -- law.go:31
    refine steps_q rfl (q_pick_f rfl rfl) ?_  -- law.go:31
    refine steps_q rfl (q_assign rfl) ?_  -- law.go:31
    refine steps_nil ?_
    refine cw_ret ?_
    exact ret_pure rfl (rv_tmp rfl rv_nil) rfl
theorem law_choices {n : Nat} (h : n ≤ 60) : PureF Try.prog 13 [.int .i64 n] (.int .i64 (mostI n)) := by
  have h2 := cn2 n
  have h3 := cn3 n
  have h4 := cn4 n
  obtain ⟨a0, a1, b0, b1, c0, c1⟩ := cn_bounds n (by omega)
  have e2 : (n : Int) * (n - 1) / 2 = cn 2 n := by rw [← h2]; omega
  have e3 : (n : Int) * (n - 1) * (n - 2) = 6 * cn 3 n := by rw [← h2, Int.mul_assoc, ← h3]; omega
  have e4 : (n : Int) * (n - 1) * (n - 2) * (n - 3) = 24 * cn 4 n := by rw [e3, Int.mul_assoc, ← h4]; omega
  have e3' : 6 * cn 3 n / 6 = cn 3 n := by omega
  have e4' : 24 * cn 4 n / 24 = cn 4 n := by omega
  refine pure_of Try.func13 rfl Try.ntmps13 rfl fun w => ?_
  refine cw_sr ?_
  refine steps_q rfl (q_assign rfl) ?_  -- outright.go:14
  refine steps_nil ?_
  refine cw_sr ?_
  refine steps_q rfl (q_move rfl) ?_  -- outright.go:15
  refine steps_q rfl (q_move rfl) ?_  -- outright.go:15
  refine steps_q rfl (q_move rfl) ?_  -- outright.go:15
  refine steps_q rfl (q_bin rfl rfl (sub64 (by omega) (by omega))) ?_  -- outright.go:15
  refine steps_q rfl (q_bin rfl rfl (mul64 (by omega) (by omega))) ?_  -- outright.go:15
  refine steps_q rfl (q_bin rfl rfl (quo64 (by omega) (by omega) (by omega))) ?_  -- outright.go:15
  rw [e2]
  refine steps_q rfl (q_bin rfl rfl (add64 (by omega) (by omega))) ?_  -- outright.go:15
  refine steps_q rfl (q_move rfl) ?_  -- outright.go:15
  refine steps_q rfl (q_move rfl) ?_  -- outright.go:15
  refine steps_q rfl (q_bin rfl rfl (sub64 (by omega) (by omega))) ?_  -- outright.go:15
  refine steps_q rfl (q_bin rfl rfl (mul64 (by omega) (by omega))) ?_  -- outright.go:15
  refine steps_q rfl (q_move rfl) ?_  -- outright.go:15
  refine steps_q rfl (q_bin rfl rfl (sub64 (by omega) (by omega))) ?_  -- outright.go:15
  refine steps_q rfl (q_bin rfl rfl (mul64 (by omega) (by omega))) ?_  -- outright.go:15
  rw [e3]
  refine steps_q rfl (q_bin rfl rfl (quo64 (by omega) (by omega) (by omega))) ?_  -- outright.go:15
  rw [e3']
  refine steps_q rfl (q_bin rfl rfl (add64 (by omega) (by omega))) ?_  -- outright.go:15
  refine steps_q rfl (q_move rfl) ?_  -- outright.go:15
  refine steps_q rfl (q_move rfl) ?_  -- outright.go:15
  refine steps_q rfl (q_bin rfl rfl (sub64 (by omega) (by omega))) ?_  -- outright.go:15
  refine steps_q rfl (q_bin rfl rfl (mul64 (by omega) (by omega))) ?_  -- outright.go:15
  refine steps_q rfl (q_move rfl) ?_  -- outright.go:15
  refine steps_q rfl (q_bin rfl rfl (sub64 (by omega) (by omega))) ?_  -- outright.go:15
  rw [← e3]
  refine steps_q rfl (q_bin rfl rfl (mul64 (by omega) (by omega))) ?_  -- outright.go:15
  refine steps_q rfl (q_move rfl) ?_  -- outright.go:15
  refine steps_q rfl (q_bin rfl rfl (sub64 (by omega) (by omega))) ?_  -- outright.go:15
  refine steps_q rfl (q_bin rfl rfl (mul64 (by omega) (by omega))) ?_  -- outright.go:15
  rw [e4]
  refine steps_q rfl (q_bin rfl rfl (quo64 (by omega) (by omega) (by omega))) ?_  -- outright.go:15
  rw [e4']
  refine steps_q rfl (q_bin rfl rfl (add64 (by omega) (by omega))) ?_  -- outright.go:15
  refine steps_q rfl (q_assign rfl) ?_  -- outright.go:15
  refine steps_nil ?_
  refine cw_ret ?_
  exact ret_pure rfl (rv_tmp rfl rv_nil) rfl
end Go.Proofs.Ytomdahjakkifbaa

/-
  The walks of the law: box, awake.
-/
namespace Go.Proofs.Ytomdahjakkifbaa
open Go Go.NP Go.RowKit Go.Proofs
set_option maxRecDepth 100000

/-- Where a walk ends is one point. -/
theorem ends_unique {ps : List Pt} {o q : List Int} (h : Ends ps o) (k : Ends ps q) : nrOf (sel ps o) = nrOf (sel ps q) := by
  have h1 := h.1.good.dpos
  have h2 := k.1.good.dpos
  have mem : ∀ {o : List Int}, Ends ps o → ∀ p ∈ sel ps o, p ∈ ps := fun {o} h p hp => by
    obtain ⟨i, hi, rfl⟩ := List.mem_map.1 hp
    have := h.1.at' i hi
    exact List.mem_of_getElem? (ptI_get this.1 this.2)
  exact nrSum_eq (same_of_ahead h.1.good k.1.good (fun p hp => h.2 p (mem k p hp)) (fun p hp => k.2 p (mem h p hp))) (by omega) (by omega)
instance (l : List Pt) (N : Sp) (d : Int) : Decidable (Ahead l N d) := by unfold Ahead; exact inferInstance
/-- By reckoning. -/
theorem ends_of {ps : List Pt} {o : List Int} (h : (decide (o.Pairwise (· < ·)) && decide (∀ k ∈ o, 0 ≤ k ∧ k < ps.length) && decide (1 ≤ o.length) && decide (o.length ≤ 4) && decide (dI (sel ps o) ≠ 0) && (wI (sel ps o)).all (fun x => decide (0 < x)) && decide (Ahead ps (nI (sel ps o)) (dI (sel ps o)))) = true) : Ends ps o := by
  simp only [Bool.and_eq_true, decide_eq_true_eq, List.all_eq_true] at h
  obtain ⟨⟨⟨⟨⟨⟨h1, h2⟩, h3⟩, h4⟩, h5⟩, h6⟩, h7⟩ := h
  exact ⟨⟨h1, h2, ⟨by simpa [sel] using h3, by simpa [sel] using h4, AI_of (by simpa [sel] using h3) (by simpa [sel] using h4) h5, h6⟩⟩, h7⟩
def awA : List Pt := [⟨2, -9, 0⟩, ⟨2, 9, 0⟩, ⟨5, 0, 0⟩, ⟨9, 1, 1⟩]
def boxI (i : Int) : Pt := ⟨i % 2 * 2, i / 2 % 2 * 2, i / 4 * 2⟩
def boxTo : Nat → List Pt
  | 0 => []
  | k + 1 => boxTo k ++ [boxI k]
theorem boxTo_len : ∀ k, (boxTo k).length = k
  | 0 => rfl
  | k + 1 => by simp [boxTo, boxTo_len k]
def awB : List Pt := boxTo 8
theorem awA_ends : Ends awA [0, 1] := ends_of (by decide +kernel)
theorem awA_n : (nrOf (sel awA [0, 1])).n = ⟨2, 0, 0⟩ ∧ (nrOf (sel awA [0, 1])).d = 1 := by decide +kernel
theorem aw1_ends : Ends (dif awB [⟨1, 1, 1⟩]) [0, 7] := ends_of (by decide +kernel)
theorem aw1_n : (nrOf (sel (dif awB [⟨1, 1, 1⟩]) [0, 7])).n = ⟨0, 0, 0⟩ := by decide +kernel
theorem aw3_ends : Ends (dif awB [⟨3, 3, 3⟩]) [7] := ends_of (by decide +kernel)
theorem aw3_n : ¬ (nrOf (sel (dif awB [⟨3, 3, 3⟩]) [7])).n = ⟨0, 0, 0⟩ := by decide +kernel
theorem awA_err : errG awA = 0 := by decide +kernel
theorem aw1_err : errL awB [⟨1, 1, 1⟩] = 0 := by decide +kernel
theorem aw3_err : errL awB [⟨3, 3, 3⟩] = 0 := by decide +kernel
/-- What box hands back. -/
def XB (v : Value) (Ln : HL) : Prop := ∃ g cur cap, v = .slice (some ⟨g, 0, none⟩) 8 cap ∧ Ln = [(67, (g, .cells cur.toArray 38 (0, 0)))] ∧ SV.ok 3 (some (g, cur, cap)) (awB.map Pt.l)
theorem law_box (w : World) : Calls Try.prog 18 #[.int .i64 0, .int .i64 2] w fun e w' => ∃ v Ln, e = .returned v ∧ XB v Ln ∧ St w [] w' Ln := by
  refine calls_of Try.func18 rfl Try.ntmps18 rfl (St.start w) (args := [.int .i64 0, .int .i64 2]) ?_
  refine cw_sr ?_
  refine steps_q rfl (q_assign rfl) ?_  -- law.go:12
  refine steps_nil ?_
  refine cw_sr ?_
  refine steps_q rfl (q_assign rfl) ?_  -- law.go:13
  refine steps_nil ?_
  refine cw_sr ?_
  refine steps_q rfl (q_move rfl) ?_  -- law.go:14
  refine steps_q rfl (q_move rfl) ?_  -- law.go:14
  refine steps_q rfl (q_bin rfl rfl (sub64 (by omega) (by omega))) ?_  -- law.go:14
  refine steps_q rfl (q_assign rfl) ?_  -- law.go:14
  refine steps_nil ?_
  refine cw_seq ?_
  refine cw_sr ?_
  refine steps_q rfl (q_assign rfl) ?_  -- law.go:15
  refine steps_nil ?_
  refine cw_block ?_
  -- LOOP 1 writes [5, 7, 11, 12, 13, 14, 15, 16, 17, 18, 19, 20, 21, 22, 23, 24, 25, 26, 27, 28, 29, 30, 31, 32, 33, 34, 35, 36, 37]  stores via []  reads [0, 6]
  refine cw_loop (S := Nat × SV) (fun s => [(0, .int .i64 0), (5, s.2.v s.1), (6, .int .i64 2), (7, .int .i64 s.1)]) (fun s => s.2.l 67 38) (fun s => s.1 ≤ 8 ∧ s.2.ok 3 ((boxTo s.1).map Pt.l)) (fun s => 8 - s.1) (0, none) ⟨by dsimp only; omega, by simp [SV.ok, boxTo]⟩ (subs ⟨rfl, rfl, rfl, rfl, trivial⟩) (subs trivial) ?_
  rintro ⟨k, sv⟩ ⟨k1, hsv⟩
  dsimp only at k1 hsv
  conv => enter [7]; dsimp only
  conv => enter [8]; dsimp only
  have hkl : ((boxTo k).map Pt.l).length = k := by rw [List.length_map, boxTo_len]
  refine cw_seq ?_
  refine cw_sr ?_
  refine steps_q rfl (q_move rfl) ?_  -- law.go:15
  refine steps_q rfl (q_bin rfl rfl rfl) ?_  -- law.go:15
  refine steps_nil ?_
  refine cw_cond _ rfl (fun hc1 => ?_) (fun hc1 => ?_)
  · -- yes 1
    have hk : (k : Int) < 8 := of_decide_eq_true hc1
    refine cw_skip ?_
    refine at_then ?_
    refine cw_seq ?_
    refine cw_block ?_
    rcases sv with _ | ⟨g1, cur1, cap1⟩
    · -- way 6.a
      refine cw_region ?_
      refine steps_q rfl (q_move rfl) ?_  -- law.go:16
      refine steps_q rfl (q_move rfl) ?_  -- law.go:16
      refine steps_q rfl (q_move rfl) ?_  -- law.go:16
      refine steps_q rfl (q_bin rfl rfl (rem64 (by omega) (by omega) (by omega))) ?_  -- law.go:16
      refine steps_q rfl (q_move rfl) ?_  -- law.go:16
      refine steps_q rfl (q_bin rfl rfl (mul64 (by omega) (by omega))) ?_  -- law.go:16
      refine steps_q rfl (q_bin rfl rfl (add64 (by omega) (by omega))) ?_  -- law.go:16
      refine steps_q rfl (q_move rfl) ?_  -- law.go:16
      refine steps_q rfl (q_move rfl) ?_  -- law.go:16
      refine steps_q rfl (q_bin rfl rfl (quo64 (by omega) (by omega) (by omega))) ?_  -- law.go:16
      refine steps_q rfl (q_bin rfl rfl (rem64 (by omega) (by omega) (by omega))) ?_  -- law.go:16
      refine steps_q rfl (q_move rfl) ?_  -- law.go:16
      refine steps_q rfl (q_bin rfl rfl (mul64 (by omega) (by omega))) ?_  -- law.go:16
      refine steps_q rfl (q_bin rfl rfl (add64 (by omega) (by omega))) ?_  -- law.go:16
      refine steps_q rfl (q_move rfl) ?_  -- law.go:16
      refine steps_q rfl (q_move rfl) ?_  -- law.go:16
      refine steps_q rfl (q_bin rfl rfl (quo64 (by omega) (by omega) (by omega))) ?_  -- law.go:16
      refine steps_q rfl (q_move rfl) ?_  -- law.go:16
      refine steps_q rfl (q_bin rfl rfl (mul64 (by omega) (by omega))) ?_  -- law.go:16
      refine steps_q rfl (q_bin rfl rfl (add64 (by omega) (by omega))) ?_  -- law.go:16
      rw [show (0 : Int) + k % 2 * 2 = (boxI k).x by simp [boxI], show (0 : Int) + k / 2 % 2 * 2 = (boxI k).y by simp [boxI], show (0 : Int) + k / 4 * 2 = (boxI k).z by simp [boxI]]
      refine steps_q rfl (q_build (vs := [(0, _), (1, _), (2, _)]) rfl rfl (bldP (boxI k))) ?_  -- law.go:16
      refine steps_s (s_buildSl 36 rfl rfl rfl (bslP (boxI k)) fun b36 => ?_)  -- law.go:16
      refine steps_s (s_appendN 67 36 none k ((boxTo k).map Pt.l) (boxI k).l hkl elt22 rfl rfl hsv (subs trivial) rfl rfl rfl rfl (by omega) (by unfold maxLen; omega) fun g1 cur1 cap1 hk1 => ?_)  -- law.go:16
      refine steps_q rfl (q_assign rfl) ?_  -- law.go:16
      refine steps_nil ?_
      refine at_then ?_
      refine cw_region ?_
      refine steps_q rfl (q_move rfl) ?_  -- law.go:15
      refine steps_q rfl (q_bin rfl rfl (add64 (by omega) (by omega))) ?_  -- law.go:15
      refine steps_q rfl (q_assign rfl) ?_  -- law.go:15
      refine steps_nil ?_
      exact at_round (k + 1, some (g1, cur1, cap1)) ⟨by dsimp only; omega, by dsimp only; rw [boxTo, List.map_append]; exact hk1⟩ (by dsimp only; omega) (subs ⟨rfl, rfl, rfl, by dsimp only; rw [show ((k + 1 : Nat) : Int) = k + 1 by omega]; rfl, trivial⟩) (subs ⟨rfl, trivial⟩)
    · -- way 6.b
      refine cw_region ?_
      refine steps_q rfl (q_move rfl) ?_  -- law.go:16
      refine steps_q rfl (q_move rfl) ?_  -- law.go:16
      refine steps_q rfl (q_move rfl) ?_  -- law.go:16
      refine steps_q rfl (q_bin rfl rfl (rem64 (by omega) (by omega) (by omega))) ?_  -- law.go:16
      refine steps_q rfl (q_move rfl) ?_  -- law.go:16
      refine steps_q rfl (q_bin rfl rfl (mul64 (by omega) (by omega))) ?_  -- law.go:16
      refine steps_q rfl (q_bin rfl rfl (add64 (by omega) (by omega))) ?_  -- law.go:16
      refine steps_q rfl (q_move rfl) ?_  -- law.go:16
      refine steps_q rfl (q_move rfl) ?_  -- law.go:16
      refine steps_q rfl (q_bin rfl rfl (quo64 (by omega) (by omega) (by omega))) ?_  -- law.go:16
      refine steps_q rfl (q_bin rfl rfl (rem64 (by omega) (by omega) (by omega))) ?_  -- law.go:16
      refine steps_q rfl (q_move rfl) ?_  -- law.go:16
      refine steps_q rfl (q_bin rfl rfl (mul64 (by omega) (by omega))) ?_  -- law.go:16
      refine steps_q rfl (q_bin rfl rfl (add64 (by omega) (by omega))) ?_  -- law.go:16
      refine steps_q rfl (q_move rfl) ?_  -- law.go:16
      refine steps_q rfl (q_move rfl) ?_  -- law.go:16
      refine steps_q rfl (q_bin rfl rfl (quo64 (by omega) (by omega) (by omega))) ?_  -- law.go:16
      refine steps_q rfl (q_move rfl) ?_  -- law.go:16
      refine steps_q rfl (q_bin rfl rfl (mul64 (by omega) (by omega))) ?_  -- law.go:16
      refine steps_q rfl (q_bin rfl rfl (add64 (by omega) (by omega))) ?_  -- law.go:16
      rw [show (0 : Int) + k % 2 * 2 = (boxI k).x by simp [boxI], show (0 : Int) + k / 2 % 2 * 2 = (boxI k).y by simp [boxI], show (0 : Int) + k / 4 * 2 = (boxI k).z by simp [boxI]]
      refine steps_q rfl (q_build (vs := [(0, _), (1, _), (2, _)]) rfl rfl (bldP (boxI k))) ?_  -- law.go:16
      refine steps_s (s_buildSl 36 rfl rfl rfl (bslP (boxI k)) fun b36 => ?_)  -- law.go:16
      refine steps_s (s_appendN 67 36 (some (g1, cur1, cap1)) k ((boxTo k).map Pt.l) (boxI k).l hkl elt22 rfl rfl hsv (subs ⟨rfl, trivial⟩) rfl rfl rfl rfl (by omega) (by unfold maxLen; omega) fun g1 cur1 cap1 hk1 => ?_)  -- law.go:16
      refine steps_q rfl (q_assign rfl) ?_  -- law.go:16
      refine steps_nil ?_
      refine at_then ?_
      refine cw_region ?_
      refine steps_q rfl (q_move rfl) ?_  -- law.go:15
      refine steps_q rfl (q_bin rfl rfl (add64 (by omega) (by omega))) ?_  -- law.go:15
      refine steps_q rfl (q_assign rfl) ?_  -- law.go:15
      refine steps_nil ?_
      exact at_round (k + 1, some (g1, cur1, cap1)) ⟨by dsimp only; omega, by dsimp only; rw [boxTo, List.map_append]; exact hk1⟩ (by dsimp only; omega) (subs ⟨rfl, rfl, rfl, by dsimp only; rw [show ((k + 1 : Nat) : Int) = k + 1 by omega]; rfl, trivial⟩) (subs ⟨rfl, trivial⟩)
  · -- no 1
    have hk : ¬ (k : Int) < 8 := of_decide_eq_false hc1
    obtain rfl : k = 8 := by omega
    rcases sv with _ | ⟨g1, cur1, cap1⟩
    · exfalso
      have := SV.len0 hsv
      omega
    refine cw_exit ?_
    refine at_then ?_
    refine cw_sr ?_
    refine steps_q rfl (q_move rfl) ?_  -- law.go:18
    refine steps_q rfl (q_assign rfl) ?_  -- law.go:18
    refine steps_nil ?_
    refine cw_ret ?_
    exact ret_st rfl (rv_tmp rfl rv_nil) rfl ⟨g1, cur1, cap1, rfl, rfl, hsv⟩ fun w' hw => hw.weaken (subs ⟨rfl, trivial⟩)
theorem bldP2 (x y : Int) : ∀ w, (Instr.build 38 [(0, Value.int .i64 x), (1, Value.int .i64 y)].toArray).run Try.prog w = .ok (.agg (Pt.l ⟨x, y, 0⟩).toArray) w := fun w => by kernel_rfl
theorem bldP1 (x : Int) : ∀ w, (Instr.build 38 [(0, Value.int .i64 x)].toArray).run Try.prog w = .ok (.agg (Pt.l ⟨x, 0, 0⟩).toArray) w := fun w => by kernel_rfl
theorem bldS1 (x : Int) : ∀ w, (Instr.build 28 [(0, Value.agg (Wl x).toArray)].toArray).run Try.prog w = .ok (.agg (Sp.l ⟨x, 0, 0⟩).toArray) w := fun w => by kernel_rfl
theorem bslA : ∀ w, (Instr.buildSlice 22 4 [(0, Value.agg (Pt.l ⟨2, -9, 0⟩).toArray), (1, .agg (Pt.l ⟨2, 9, 0⟩).toArray), (2, .agg (Pt.l ⟨5, 0, 0⟩).toArray), (3, .agg (Pt.l ⟨9, 1, 1⟩).toArray)].toArray).run Try.prog w = .ok (.slice (some ⟨w.heap.size, 0, none⟩) 4 4) (w.alloc (.cells ((awA.map Pt.l).flatten).toArray 38)) := fun w => by kernel_rfl
theorem okP1 (p : Pt) (g : Nat) : SV.ok 3 (some (g, p.l, 1)) ([p].map Pt.l) := ⟨rfl, Nat.le_refl _, by unfold maxLen; omega, rfl, fun y hy => by simp at hy; subst hy; rfl⟩
theorem okAw (g : Nat) : SV.ok 3 (some (g, (awA.map Pt.l).flatten, 4)) (awA.map Pt.l) := ⟨rfl, Nat.le_refl _, by unfold maxLen; omega, rfl, fun y hy => by obtain ⟨p, _, rfl⟩ := List.mem_map.1 hy; rfl⟩
theorem sp2fits : (⟨2, 0, 0⟩ : Sp).fits := ⟨fits_small (n := 2) (by omega), fits_small (n := 0) (by omega), fits_small (n := 0) (by omega)⟩
theorem fits1 : Fits 1 := fits_small (by omega)
theorem nilPts (w : World) : PtsAt w (.slice none 0 0) [] := SlAt.nil w _ _ _ _

set_option maxHeartbeats 4000000 in
theorem law_awake : PureF Try.prog 7 [] (.bool true) := by
  refine pure_of Try.func7 rfl Try.ntmps7 rfl fun w => ?_
  refine cw_sr ?_
  refine steps_q rfl (q_assign rfl) ?_  -- law.go:22
  refine steps_nil ?_
  refine cw_sr ?_
  refine steps_q rfl (q_build (vs := [(0, _), (1, _)]) rfl rfl (bldP2 2 (-9))) ?_  -- law.go:23
  refine steps_q rfl (q_build (vs := [(0, _), (1, _)]) rfl rfl (bldP2 2 9)) ?_  -- law.go:23
  refine steps_q rfl (q_build (vs := [(0, _)]) rfl rfl (bldP1 5)) ?_  -- law.go:23
  refine steps_q rfl (q_build (vs := [(0, _), (1, _), (2, _)]) rfl rfl (bldP ⟨9, 1, 1⟩)) ?_  -- law.go:23
  refine steps_s (s_buildSl 14 (vs := [(0, _), (1, _), (2, _), (3, _)]) rfl rfl rfl bslA fun b14 => ?_)  -- law.go:23
  refine steps_s (s_callSt ent6 rfl rfl rfl (R := GN awA) (fun w' hw => by have h0 : PtsAt w' (.slice (some ⟨b14, 0, none⟩) 4 4) awA := SlAt.own (q := some (b14, (awA.map Pt.l).flatten, 4)) (i := 14) (e := 38) (s := 3) (xs := awA.map Pt.l) hw (subs ⟨rfl, trivial⟩) (okAw b14); simpa using gjk_Near_ok w' h0 awA_err) fun v Ln hZ => ?_)  -- law.go:23
  obtain ⟨own, g, cur, cap, hE, rfl, rfl, hsv⟩ := hZ
  have e := ends_unique hE awA_ends
  rw [e, awA_n.1, awA_n.2]
  clear hE e
  refine steps_q rfl (q_move rfl) ?_  -- law.go:23
  refine steps_q rfl (q_extract rfl rfl) ?_  -- law.go:23
  refine steps_q rfl (q_extract rfl rfl) ?_  -- law.go:23
  refine steps_s (s_allocA 1 rfl zer31 fun b1 => ?_)  -- law.go:23
  refine steps_s (s_storeW 1 siz31 rfl rfl rfl rfl rfl rfl ?_)  -- law.go:23
  refine steps_q rfl (q_assign rfl) ?_  -- law.go:23
  refine steps_nil ?_
  refine cw_sr ?_
  refine steps_s (s_callSt ent18 rfl rfl rfl (R := XB) (fun w' hw => by simpa using law_box w') fun v Ln hZ => ?_)  -- law.go:24
  obtain ⟨g1, cur1, cap1, rfl, rfl, hsv1⟩ := hZ
  refine steps_q rfl (q_build (vs := [(0, _), (1, _), (2, _)]) rfl rfl (bldP ⟨1, 1, 1⟩)) ?_  -- law.go:24
  refine steps_s (s_buildSl 21 rfl rfl rfl (bslP ⟨1, 1, 1⟩) fun b21 => ?_)  -- law.go:24
  refine steps_s (s_callSt ent17 rfl rfl rfl (R := MK (dif awB [⟨1, 1, 1⟩])) (fun w' hw => by have h0 : PtsAt w' (.slice (some ⟨g1, 0, none⟩) 8 cap1) awB := SlAt.own (q := some (g1, cur1, cap1)) (i := 67) (e := 38) (s := 3) hw (subs ⟨rfl, trivial⟩) hsv1; have h2 : PtsAt w' (.slice (some ⟨b21, 0, none⟩) 1 1) [⟨1, 1, 1⟩] := SlAt.own (q := some (b21, Pt.l ⟨1, 1, 1⟩, 1)) (i := 21) (e := 38) (s := 3) hw (subs ⟨rfl, trivial⟩) (okP1 _ _); simpa using gjk_Meets_ok w' h0 h2 (by decide) (by decide) aw1_err) fun v Ln hZ => ?_)  -- law.go:24
  obtain ⟨own1, hE1, rfl, rfl⟩ := hZ
  rw [ends_unique hE1 aw1_ends, decide_eq_true aw1_n]
  clear hE1
  refine steps_q rfl (q_move rfl) ?_  -- law.go:24
  refine steps_q rfl (q_extract rfl rfl) ?_  -- law.go:24
  refine steps_q rfl (q_extract rfl rfl) ?_  -- law.go:24
  refine steps_q rfl (q_assign rfl) ?_  -- law.go:24
  refine steps_q rfl (q_assign rfl) ?_  -- law.go:24
  refine steps_nil ?_
  refine cw_sr ?_
  refine steps_s (s_callSt ent18 rfl rfl rfl (R := XB) (fun w' hw => by simpa using law_box w') fun v Ln hZ => ?_)  -- law.go:25
  obtain ⟨g3, cur3, cap3, rfl, rfl, hsv3⟩ := hZ
  refine steps_q rfl (q_build (vs := [(0, _), (1, _), (2, _)]) rfl rfl (bldP ⟨3, 3, 3⟩)) ?_  -- law.go:25
  refine steps_s (s_buildSl 28 rfl rfl rfl (bslP ⟨3, 3, 3⟩) fun b28 => ?_)  -- law.go:25
  refine steps_s (s_callSt ent17 rfl rfl rfl (R := MK (dif awB [⟨3, 3, 3⟩])) (fun w' hw => by have h0 : PtsAt w' (.slice (some ⟨g3, 0, none⟩) 8 cap3) awB := SlAt.own (q := some (g3, cur3, cap3)) (i := 67) (e := 38) (s := 3) hw (subs ⟨rfl, trivial⟩) hsv3; have h2 : PtsAt w' (.slice (some ⟨b28, 0, none⟩) 1 1) [⟨3, 3, 3⟩] := SlAt.own (q := some (b28, Pt.l ⟨3, 3, 3⟩, 1)) (i := 28) (e := 38) (s := 3) hw (subs ⟨rfl, trivial⟩) (okP1 _ _); simpa using gjk_Meets_ok w' h0 h2 (by decide) (by decide) aw3_err) fun v Ln hZ => ?_)  -- law.go:25
  obtain ⟨own3, hE3, rfl, rfl⟩ := hZ
  rw [ends_unique hE3 aw3_ends, decide_eq_false aw3_n]
  clear hE3
  refine steps_q rfl (q_move rfl) ?_  -- law.go:25
  refine steps_q rfl (q_extract rfl rfl) ?_  -- law.go:25
  refine steps_q rfl (q_extract rfl rfl) ?_  -- law.go:25
  refine steps_q rfl (q_assign rfl) ?_  -- law.go:25
  refine steps_q rfl (q_assign rfl) ?_  -- law.go:25
  refine steps_nil ?_
  refine cw_sr ?_
  refine steps_q rfl (q_call ent6 rfl rfl (fun w' hw => by simpa using gjk_Near_bad w' (nilPts w') (by simp) (show errG [] ≠ 0 by decide))) ?_  -- law.go:26
  refine steps_q rfl (q_move rfl) ?_  -- law.go:26
  refine steps_q rfl (q_extract rfl rfl) ?_  -- law.go:26
  refine steps_q rfl (q_extract rfl rfl) ?_  -- law.go:26
  refine steps_s (s_allocA 7 rfl zer31 fun b7 => ?_)  -- law.go:26
  refine steps_s (s_storeW 7 siz31 rfl rfl rfl rfl rfl rfl ?_)  -- law.go:26
  refine steps_q rfl (q_assign rfl) ?_  -- law.go:26
  refine steps_nil ?_
  refine cw_sd mixed [0, 1, 2, 3, 4, 5, 6, 7, 8, 9, 10, 11, 12, 13, 14, 15, 16, 17, 18, 19, 20, 21, 22, 23, 24, 25, 26, 27, 28, 29, 30, 31, 32, 33, 34] 0 _ (by kernel_rfl) (SubL.refl _) ?_
  refine qi_q rfl rfl (q_move rfl) ?_  -- law.go:27
  refine qi_q rfl rfl (q_bin rfl rfl rfl) ?_  -- law.go:27
  refine qi_q rfl rfl (q_move rfl) ?_  -- law.go:27
  refine qi_gq rfl rfl rfl rfl (q_field fld31_0 rfl) ?_  -- law.go:27
  refine qi_gq rfl rfl rfl rfl (q_loadA 1 agg28 rfl rfl (nr0 _)) ?_  -- law.go:27
  refine qi_gq rfl rfl rfl rfl (q_pure ent19 rfl (wide_Of 2 (by omega))) ?_  -- law.go:27
  refine qi_gq rfl rfl rfl rfl (q_build (vs := [(0, _)]) rfl rfl (bldS1 2)) ?_  -- law.go:27
  refine qi_gq rfl rfl rfl rfl (q_aeql rfl rfl (eqlS sp2fits sp2fits)) ?_  -- law.go:27
  refine qi_q rfl rfl (q_pick_t rfl rfl) ?_  -- law.go:27
  refine qi_q rfl rfl (q_move rfl) ?_  -- law.go:27
  refine qi_gq rfl rfl rfl rfl (q_field fld31_1 rfl) ?_  -- law.go:27
  refine qi_gq rfl rfl rfl rfl (q_loadA 1 agg26 rfl rfl (nr1 _)) ?_  -- law.go:27
  refine qi_gq rfl rfl rfl rfl (q_pure ent19 rfl (wide_Of 1 (by omega))) ?_  -- law.go:27
  refine qi_gq rfl rfl rfl rfl (q_aeql rfl rfl (eqlW fits1 fits1)) ?_  -- law.go:27
  refine qi_q rfl rfl (q_pick_t rfl rfl) ?_  -- law.go:27
  refine qi_q rfl rfl (q_move rfl) ?_  -- law.go:27
  refine qi_gq rfl rfl rfl rfl (q_move rfl) ?_  -- law.go:27
  refine qi_q rfl rfl (q_pick_t rfl rfl) ?_  -- law.go:27
  refine qi_q rfl rfl (q_move rfl) ?_  -- law.go:27
  refine qi_gq rfl rfl rfl rfl (q_move rfl) ?_  -- law.go:27
  refine qi_gq rfl rfl rfl rfl (q_bin rfl rfl rfl) ?_  -- law.go:27
  refine qi_q rfl rfl (q_pick_t rfl rfl) ?_  -- law.go:27
  refine qi_q rfl rfl (q_move rfl) ?_  -- law.go:27
  refine qi_gq rfl rfl rfl rfl (q_move rfl) ?_  -- law.go:27
  refine qi_gq rfl rfl rfl rfl (q_not rfl rfl) ?_  -- law.go:27
  refine qi_q rfl rfl (q_pick_t rfl rfl) ?_  -- law.go:27
  refine qi_q rfl rfl (q_move rfl) ?_  -- law.go:27
  refine qi_gq rfl rfl rfl rfl (q_move rfl) ?_  -- law.go:27
  refine qi_gq rfl rfl rfl rfl (q_bin rfl rfl rfl) ?_  -- law.go:27
  refine qi_q rfl rfl (q_pick_t rfl rfl) ?_  -- law.go:27
  refine qi_q rfl rfl (q_move rfl) ?_  -- law.go:27
  refine qi_gq rfl rfl rfl rfl (q_move rfl) ?_  -- law.go:27
  refine qi_gq rfl rfl rfl rfl (q_bin rfl rfl rfl) ?_  -- law.go:27
  refine qi_q rfl rfl (q_pick_t rfl rfl) ?_  -- law.go:27
  refine qi_q rfl rfl (q_assign rfl) ?_  -- law.go:27
  refine qi_nil ?_
  refine tail_nil (by kernel_rfl) ?_
  refine cw_ret ?_
  exact ret_pure rfl (rv_tmp rfl rv_nil) rfl
end Go.Proofs.Ytomdahjakkifbaa
