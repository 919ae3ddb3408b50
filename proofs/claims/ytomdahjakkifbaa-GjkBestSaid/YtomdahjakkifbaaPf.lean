/-
  Blocks by other numbers; a row of blocks; a range over a function that makes what it hands out. The walks of math/bits: OnesCount, of small numbers. The walks of package simplex: sized. The walks of package simplex: choices. The walks of package simplex: nearest. That a choice is found: the nearest point of at most four points. The walks of package simplex: Near. Appending a slice that is told; a slice against nil. The walks of Go's library: comparing and sorting a few whole numbers, cloning a slice.
-/
import Derived.Test.YtomdahjakkifbaaPe

/-
  Blocks by other numbers; a row of blocks; a range over a function that makes what it hands out.
-/
namespace Go.NP
open Go Go.RowKit
section
variable {P : Program} {w0 : World} {M : List Nat} {N : Nat} {D : Dfr} {T : TL} {L : HL} {Q : Exit → Act → World → Prop}

/-! ## By other numbers -/
def SubR (ρ : Nat → Nat) (L' L : HL) : Prop := (∀ i x, look L' i = some x → look L (ρ i) = some x) ∧ ∀ i j x y, look L' i = some x → look L' j = some y → ρ i = ρ j → i = j
theorem St.ren {w : World} {L' : HL} (ρ : Nat → Nat) (h : St w0 M w L) (hs : SubR ρ L' L) : St w0 M w L' :=
  ⟨h.os, h.tape, h.output, h.size, h.old, fun i b o hl => h.known (ρ i) b o (hs.1 i _ hl), fun i j b o c p h1 h2 hne => h.apart (ρ i) (ρ j) b o c p (hs.1 i _ h1) (hs.1 j _ h2) fun e => hne (hs.2 i j _ _ h1 h2 e)⟩
theorem CW.ren {c : Code} {L' : HL} (ρ : Nat → Nat) (h : CW P w0 M N D c T L' Q) (hs : SubR ρ L' L) : CW P w0 M N D c T L Q := fun a w ha hw => h a w ha (hw.ren ρ hs)
theorem At.ren {e : Exit} {L' : HL} (ρ : Nat → Nat) (h : At w0 M N D Q e T L') (hs : SubR ρ L' L) : At w0 M N D Q e T L := fun a w ha hw => h a w ha (hw.ren ρ hs)
theorem St.only {w : World} {i j b : Nat} {o : Obj} (h : St w0 M w L) (hl : look L j = some (b, o)) : St w0 M w [(i, (b, o))] := by
  refine ⟨h.os, h.tape, h.output, h.size, h.old, fun k c p hk => ?_, fun k m c p d q h1 h2 hne => ?_⟩
  · rw [look_cons] at hk
    split at hk
    · cases hk; exact h.known j b o hl
    · simp [look] at hk
  · rw [look_cons] at h1 h2
    split at h1
    · split at h2
      · omega
      · simp [look] at h2
    · simp [look] at h1

/-! ## A row of blocks -/
def rowL (e : TypeId) : Nat → List (Nat × List Value × Nat) → HL
  | _, [] => []
  | k, q :: r => (k, (q.1, .cells q.2.1.toArray e (0, 0))) :: rowL e (k + 1) r
theorem look_rowL {e : TypeId} : ∀ {r : List (Nat × List Value × Nat)} {k i : Nat} {x : Nat × Obj}, look (rowL e k r) i = some x → k ≤ i ∧ ∃ q, r[i - k]? = some q ∧ x = (q.1, .cells q.2.1.toArray e (0, 0))
  | [], _, _, _, h => by simp [rowL, look] at h
  | q :: r, k, i, x, h => by
    simp only [rowL] at h
    rw [look_cons] at h
    split at h
    · rename_i he; subst he; cases h
      exact ⟨Nat.le_refl _, q, by simp, rfl⟩
    · rename_i he
      obtain ⟨h1, q', h2, h3⟩ := look_rowL h
      refine ⟨by omega, q', ?_, h3⟩
      rw [show i - k = (i - (k + 1)) + 1 by omega]
      simpa using h2
theorem rowL_look {e : TypeId} : ∀ {r : List (Nat × List Value × Nat)} {k i : Nat} {q : Nat × List Value × Nat}, r[i]? = some q → look (rowL e k r) (k + i) = some (q.1, .cells q.2.1.toArray e (0, 0))
  | q' :: r, k, 0, q, h => by simp at h; subst h; simp [rowL, look_cons]
  | q' :: r, k, i + 1, q, h => by
    have := rowL_look (e := e) (r := r) (k := k + 1) (i := i) (q := q) (by simpa using h)
    simp only [rowL]
    rw [look_cons, if_neg (by omega), show k + (i + 1) = k + 1 + i by omega]
    exact this
  | [], _, _, _, h => by simp at h
theorem bigL_rowL {e : TypeId} : ∀ {r : List (Nat × List Value × Nat)} {k : Nat}, 1000 ≤ k → bigL (rowL e k r) = true
  | [], _, _ => rfl
  | q :: r, k, h => by simp [rowL, bigL, bigL_rowL (r := r) (k := k + 1) (by omega), h]
/-- What is known ahead of the row, and the row as it is. -/
theorem sub_app {A R L : HL} (h1 : SubL A L) (h2 : SubL R L) : SubL (A ++ R) L := fun i x hx => by
  rw [look_append] at hx
  cases ha : look A i with
  | some y => rw [ha] at hx; cases hx; exact h1 i _ ha
  | none => rw [ha] at hx; exact h2 i _ hx
theorem rowl_cons {e : TypeId} {r : List (Nat × List Value × Nat)} {i : Nat} {x : Nat × Obj} {L : HL} (hi : Nat.blt i 1000 = true) (h : SubL (rowL e 1000 r) L) : SubL (rowL e 1000 r) ((i, x) :: L) := fun j y hj => by
  obtain ⟨h1, _⟩ := look_rowL hj
  have : i < 1000 := by simpa [Nat.blt_eq] using hi
  rw [look_cons, if_neg (by omega)]
  exact h j y hj
/-- The row grows by a block that had a number of its own. -/
theorem row_more {A L : HL} {e : TypeId} {r : List (Nat × List Value × Nat)} (q : Nat × List Value × Nat) (j : Nat) (hA : okL A = true) (h : SubL A L) (hr : SubL (rowL e 1000 r) L) (hj1 : Nat.blt j 1000 = true) (hj : look L j = some (q.1, .cells q.2.1.toArray e (0, 0))) (hjA : look A j = none) :
    SubR (fun i => if i = 1000 + r.length then j else i) (A ++ rowL e 1000 (r ++ [q])) L := by
  have hj1 : j < 1000 := by simpa [Nat.blt_eq] using hj1
  have main : ∀ i x, look (A ++ rowL e 1000 (r ++ [q])) i = some x → (i < 1000 ∧ look A i = some x) ∨ (1000 ≤ i ∧ ∃ p, (r ++ [q])[i - 1000]? = some p ∧ x = (p.1, .cells p.2.1.toArray e (0, 0))) := by
    intro i x hx
    rw [look_append] at hx
    cases ha : look A i with
    | some y => rw [ha] at hx; cases hx; exact .inl ⟨okL_small hA ha, rfl⟩
    | none => rw [ha] at hx; exact .inr (look_rowL hx)
  refine ⟨fun i x hx => ?_, fun i k x y hx hy he => ?_⟩
  · show look _ (if i = 1000 + r.length then j else i) = _
    rcases main i x hx with ⟨h1, h2⟩ | ⟨h1, p, h2, rfl⟩
    · rw [if_neg (by omega), h i x h2]
    · by_cases hi : i = 1000 + r.length
      · rw [if_pos hi, hj]
        subst hi
        rw [show 1000 + r.length - 1000 = r.length by omega] at h2
        simp at h2; subst h2; rfl
      · rw [if_neg hi]
        have hlt : i - 1000 < r.length := by
          have := (List.getElem?_eq_some_iff.1 h2).1
          simp at this; omega
        rw [List.getElem?_append_left hlt] at h2
        have := rowL_look (e := e) (k := 1000) h2
        rw [show 1000 + (i - 1000) = i by omega] at this
        exact hr i _ this
  · have hne : ∀ m z, look (A ++ rowL e 1000 (r ++ [q])) m = some z → m ≠ j := fun m z hm hmj => by
      rcases main m z hm with ⟨h1, h2⟩ | ⟨h1, _⟩
      · subst hmj; rw [hjA] at h2; cases h2
      · omega
    have := hne i x hx
    have := hne k y hy
    have he : (if i = 1000 + r.length then j else i) = (if k = 1000 + r.length then j else k) := he
    split at he <;> split at he <;> omega

/-! ## A function that makes what it hands to yield -/
/-- n rounds; X: what may be handed out in a round, and what memory of the function's own it takes. -/
def IterX (P : Program) (f : FuncId) (lb : List Value) (n : Nat) (X : Nat → List Value → HL → Prop) (Need : HL → Prop) : Prop :=
  ∀ w0 M l (J : Nat → HL → Prop) (Jx : Nat → List Value → HL → Prop), (∀ i Lt, J i Lt → Need Lt) →
    (∀ i x Lo, i < n → X i x Lo → bigL Lo = true → ∀ Lt, J i Lt → okL Lt = true → ∀ W, St w0 M W (Lo ++ Lt) → YieldAt (fw none) 0 P l x.toArray W (Rnd (J (i + 1)) (Jx i x) W Lt)) →
    ∀ Lt W, J 0 Lt → okL Lt = true → St w0 M W Lt →
    Calls P f (Value.func (.yield l) #[] #[] :: lb).toArray W fun e W' => (∃ v, e = .returned v) ∧ ∃ Lt', okL Lt' = true ∧ ((J n Lt' ∧ St w0 M W' Lt') ∨ ∃ i x Lo, X i x Lo ∧ bigL Lo = true ∧ Jx i x Lt' ∧ St w0 M W' (Lo ++ Lt'))
/-- A call of yield, of which more is known. -/
theorem s_yieldX {d : Nat} {x : Operand} {args : Array Operand} {ts : Array TypeId} {l : Nat} {vs : List Value} {t : TypeId} {p : String} {af : Array Edge} {g : Option (Nat × Bool)} {K : TL → HL → Prop} {Q : Exit → Act → World → Prop}
    {J Jx : HL → Prop} (Lo Lt : HL) (hN : Nat.blt d N = true) (hx : ev T x = some (.func (.yield l) #[] #[])) (hv : evs T args.toList = some vs) (ho : bigL Lo = true) (ht : okL Lt = true)
    (hY : ∀ W, St w0 M W (Lo ++ Lt) → YieldAt (fw none) 0 P l vs.toArray W (Rnd J Jx W Lt))
    (k : ∀ b Lt', okL Lt' = true → (if b then J Lt' else Jx Lt') → K ((d, .bool b) :: T) (Lo ++ Lt')) :
    Step P w0 M N D { dst := some d, op := .call { callee := .value x, args := args, argTypes := ts }, type := t, pos := p, after := af, guard := g } T (Lo ++ Lt) K Q := by
  intro a w ha hw
  obtain ⟨fn, tmps, assign, body, hy, hR⟩ := hY w hw
  refine ⟨fun _ _ => trivial, ?_⟩
  have e1 : args.map a.eval = vs.toArray := by rw [← ha.evs hv]; simp [← Array.toList_map]
  have hr : (execOp a.eval { dst := some d, op := .call { callee := .value x, args := args, argTypes := ts }, type := t, pos := p, after := af, guard := g }).run P w = .ok (.round l fn tmps assign body) w := by
    simp [execOp, resolve, ha.ev hx, e1, Deferred.ofValue, invoke, hy]
  rw [Oper.semAt_eq _ _ _ (fun c h => by cases h), hr]
  refine ⟨fun hd => (nomatch (hd : false = true)), ?_⟩
  refine RoundIn.mono hR fun e W' ⟨b, Lt', he, hk', hs, hb⟩ => ?_
  subst he
  exact ⟨_, _, ha.put (by simpa [Nat.blt_eq] using hN) _, hw.comp ho ht hk' hs, k b Lt' hk' hb⟩
theorem recL_app {l nD : Nat} {rc : Loop} {Lc Lo : HL} {i : Nat} {x : Nat × Obj} (h9 : i ≠ 900) (hx : look ((901, (nD, .deferred (some []))) :: (Lo ++ Lc)) i = some x) (ho : bigL Lo = true) : look (Lo ++ recL l nD rc Lc) i = some x := by
  rw [look_append]
  rw [look_cons] at hx
  split at hx
  · rename_i e; subst e; cases hx
    cases hl : look Lo 901 with
    | some y => have := bigL_great ho hl; omega
    | none => rfl
  · rename_i e
    rw [look_append] at hx
    cases hl : look Lo i with
    | some y => rw [hl] at hx; exact hx
    | none =>
      rw [hl] at hx
      rw [recL, look_cons, if_neg (Ne.symm h9), look_cons, if_neg e]
      exact hx

/-- 'for .. := range g { .. }', where g makes what it hands out. -/
theorem cw_rangeX {g : Operand} {ps : List Tmp} {assign body : Code} {gf : FuncId} {lb : List Value} {n : Nat} {X : Nat → List Value → HL → Prop} {Need : HL → Prop} (J : Nat → HL → Prop) (Jx : Nat → List Value → Code → HL → Prop) (L0 : HL)
    (hg : ev T g = some (.func (.func gf) #[] lb.toArray)) (he : Ent P gf) (hIt : IterX P gf lb n X Need) (hps : ∀ i x Lo, X i x Lo → x.length = ps.length) (hpN : (ps.all fun p => Nat.blt p N) = true)
    (hok : ∀ i Lc, J i Lc → okR Lc = true) (hNeed : ∀ i Lc a b, J i Lc → Need ((900, a) :: (901, b) :: Lc))
    (h0 : J 0 L0) (hL : SubL L0 L)
    (hround : ∀ l nD rc i x Lo Lc, i < n → X i x Lo → bigL Lo = true → J i Lc → ∀ W, St w0 M W (Lo ++ recL l nD { rc with state := .ready, pending := none } Lc) →
      CW P W (blocks (recL l nD { rc with state := .ready, pending := none } Lc)) N ⟨[], some l⟩ assign (zipT ps x T) (recL l nD { rc with state := .ready, pending := none } Lc)
        (Begun P l body (roundPost P l (Rnd (RJ l nD rc J (i + 1)) (RX l nD rc (Jx i x)) W (recL l nD { rc with state := .ready, pending := none } Lc)))))
    (hdone : ∀ nD Lc, J n Lc → At w0 M N (Dm nD) Q .normal T ((901, (nD, .deferred (some []))) :: Lc))
    (hstop : ∀ nD i x Lo c Lc, X i x Lo → bigL Lo = true → Jx i x c Lc → CW P w0 M N (Dm nD) c T ((901, (nD, .deferred (some []))) :: (Lo ++ Lc)) Q) :
    CW P w0 M N D0 (.rangeFunc g ps.toArray assign body) T L Q := by
  intro a w ha hw
  refine wpIn_rangeFunc fun fn _ => ?_
  let rc : Loop := { state := .ready, pending := none, fn, tmps := a.tmps, params := ps.toArray, assign, body, defers := w.heap.size }
  have hw0 := (hw.weaken hL)
  have hw1 := (hw0.alloc 901 (.deferred (some []))).alloc 900 (.loop rc)
  rw [World.size_alloc] at hw1
  have hpr : ∀ p ∈ ps, p < N := fun p hp => by have := List.all_eq_true.1 hpN p hp; simpa [Nat.blt_eq] using this
  refine ⟨w.heap.size + 1, [{ target := .collected w.heap.size, args := #[] }], (w.alloc (.deferred (some []))).alloc (.loop rc), { target := .fn (.func gf) lb.toArray, args := #[.func (.yield (w.heap.size + 1)) #[] #[]] }, ((w.alloc (.deferred (some []))).alloc (.loop rc)), gf,
    #[.func (.yield (w.heap.size + 1)) #[] #[]] ++ lb.toArray, ((w.alloc (.deferred (some []))).alloc (.loop rc)), run_enterLoop_outer _ _ _ _ _, ?_, fun _ _ => trivial, ?_, fun hd => (nomatch (hd : false = true)), ?_⟩
  · simp only [resolve, ha.ev hg]
    simp [go_sem]
  · simp [invoke, run_enter he]
  · have hcall := hIt w0 M (w.heap.size + 1) (RJ (w.heap.size + 1) w.heap.size rc J) (fun i x => RX (w.heap.size + 1) w.heap.size rc (Jx i x))
      (fun i Lt ⟨Lc, hJ, hLt⟩ => by subst hLt; exact hNeed i Lc _ _ hJ) ?_ (recL (w.heap.size + 1) w.heap.size rc L0) _ ⟨L0, h0, rfl⟩ (okL_recL (hok 0 L0 h0)) hw1
    · have e : (Value.func (.yield (w.heap.size + 1)) #[] #[] :: lb).toArray = #[.func (.yield (w.heap.size + 1)) #[] #[]] ++ lb.toArray := by simp
      rw [e] at hcall
      refine callsIn_fw (hcall.mono ?_)
      rintro e W2 ⟨⟨v, rfl⟩, Lt', hok', (⟨⟨Lc, hJ, rfl⟩, hst⟩ | ⟨i, x, Lo, hX, ho, ⟨c, Lc, hJ, rfl⟩, hst⟩)⟩
      · refine ⟨none, _, run_endLoop (hst.known 900 _ _ rfl).1 (by simp), ?_⟩
        refine hdone w.heap.size Lc hJ _ _ ⟨ha.size, by show _ ++ a.defers = _; rw [ha.defers]; rfl, ha.tm⟩ ((hst.putObj (.loop _) (i := 900) rfl).weaken fun i x hx => ?_)
        have h9 : i ≠ 900 := by
          rintro rfl
          rw [look_cons, if_neg (by omega)] at hx
          have hr := hok _ Lc hJ
          simp only [okR, Bool.and_eq_true, Bool.not_eq_true'] at hr
          rw [inIds_look hx] at hr; cases hr.1.2
        rw [look_cons, if_neg (Ne.symm h9), recL, look_cons, if_neg (Ne.symm h9)]
        exact hx
      · have h900 : look (Lo ++ recL (w.heap.size + 1) w.heap.size { rc with state := .done, pending := some c } Lc) 900 = some (w.heap.size + 1, .loop { rc with state := .done, pending := some c }) := by
          rw [look_append]
          cases hl : look Lo 900 with
          | some y => have := bigL_great ho hl; omega
          | none => rfl
        refine ⟨some c, _, run_endLoop (hst.known 900 _ _ h900).1 (by simp), ?_⟩
        refine hstop w.heap.size i x Lo c Lc hX ho hJ _ _ ⟨ha.size, by show _ ++ a.defers = _; rw [ha.defers]; rfl, ha.tm⟩ ((hst.putObj (.loop _) (i := 900) h900).weaken fun i x hx => ?_)
        have hr : inIds Lc 900 = false := by
          simp only [recL, okL, Bool.and_eq_true, Bool.not_eq_true', inIds] at hok'
          have := hok'.1.1
          exact (by simpa using this : _ ∧ _).2
        have h9 : i ≠ 900 := by
          rintro rfl
          rw [look_cons, if_neg (by omega), look_append] at hx
          cases hl : look Lo 900 with
          | some y => have := bigL_great ho hl; omega
          | none => rw [hl] at hx; rw [inIds_look hx] at hr; cases hr
        rw [look_cons, if_neg (Ne.symm h9)]
        exact recL_app h9 hx ho
    · -- the rounds
      rintro i x Lo hi hX ho Lt ⟨Lc, hJ, rfl⟩ hk W hW
      have h900 : look (Lo ++ recL (w.heap.size + 1) w.heap.size { rc with state := .ready, pending := none } Lc) 900 = some (w.heap.size + 1, .loop { rc with state := .ready, pending := none }) := by
        rw [look_append]
        cases hl : look Lo 900 with
        | some y => have := bigL_great ho hl; omega
        | none => rfl
      refine ⟨fn, _, assign, body, run_yield (hW.known 900 _ _ h900).1 (by show x.toArray.size = ps.toArray.size; simpa using hps i x Lo hX), roundIn_of_wpIn trivial ?_⟩
      have hfr : Fr N ⟨[], some (w.heap.size + 1)⟩ { tmps := a.tmps, defers := [] } T := ⟨ha.size, rfl, ha.tm⟩
      have hz := fr_zip ps x a.tmps T hpr hfr
      have e : ((rc.params.zip x.toArray).foldl (fun tmps (t, a) => tmps.setIfInBounds t a) rc.tmps) = (ps.zip x).foldl (fun t (p, v) => t.setIfInBounds p v) a.tmps := by
        show ((ps.toArray.zip x.toArray).foldl _ a.tmps) = _
        rw [List.zip_toArray, List.foldl_toArray]
      have := hround (w.heap.size + 1) w.heap.size rc i x Lo Lc hi hX ho hJ W hW _ W (e ▸ hz) (hW.weaken (sub_right ho hk)).within
      exact this
end
end Go.NP

/-
  The walks of math/bits: OnesCount, of small numbers.
-/
namespace Go.Proofs.Ytomdahjakkifbaa
open Go Go.NP Go.RowKit Go.Proofs
set_option maxRecDepth 100000

def popc (x : Int) : Int := x % 2 + x / 2 % 2 + x / 4 % 2 + x / 8 % 2
def Small15 (x : Int) : Prop := x = 1 ∨ x = 2 ∨ x = 3 ∨ x = 4 ∨ x = 5 ∨ x = 6 ∨ x = 7 ∨ x = 8 ∨ x = 9 ∨ x = 10 ∨ x = 11 ∨ x = 12 ∨ x = 13 ∨ x = 14 ∨ x = 15
theorem small15 {x : Int} (h0 : 0 < x) (h1 : x ≤ 15) : Small15 x := by unfold Small15; omega
theorem bits_OnesCount64 {x : Int} (h : Small15 x) : PureF Try.prog 82 [.int .u64 x] (.int .i64 (popc x)) := by
  rcases h with rfl | rfl | rfl | rfl | rfl | rfl | rfl | rfl | rfl | rfl | rfl | rfl | rfl | rfl | rfl
  all_goals
    refine pure_of Try.func82 rfl Try.ntmps82 rfl fun w => ?_
    refine cw_sr ?_
    refine steps_q rfl (q_assign rfl) ?_  -- bits.go:140
    refine steps_nil ?_
    refine cw_sr ?_
    refine steps_q rfl (q_move rfl) ?_  -- bits.go:161
    refine steps_q rfl (q_bin rfl rfl rfl) ?_  -- bits.go:161
    refine steps_q rfl (q_bin rfl rfl rfl) ?_  -- bits.go:161
    refine steps_q rfl (q_move rfl) ?_  -- bits.go:161
    refine steps_q rfl (q_bin rfl rfl rfl) ?_  -- bits.go:161
    refine steps_q rfl (q_bin rfl rfl rfl) ?_  -- bits.go:161
    refine steps_q rfl (q_assign rfl) ?_  -- bits.go:161
    refine steps_nil ?_
    refine cw_sr ?_
    refine steps_q rfl (q_move rfl) ?_  -- bits.go:162
    refine steps_q rfl (q_bin rfl rfl rfl) ?_  -- bits.go:162
    refine steps_q rfl (q_bin rfl rfl rfl) ?_  -- bits.go:162
    refine steps_q rfl (q_move rfl) ?_  -- bits.go:162
    refine steps_q rfl (q_bin rfl rfl rfl) ?_  -- bits.go:162
    refine steps_q rfl (q_bin rfl rfl rfl) ?_  -- bits.go:162
    refine steps_q rfl (q_assign rfl) ?_  -- bits.go:162
    refine steps_nil ?_
    refine cw_sr ?_
    refine steps_q rfl (q_move rfl) ?_  -- bits.go:163
    refine steps_q rfl (q_bin rfl rfl rfl) ?_  -- bits.go:163
    refine steps_q rfl (q_move rfl) ?_  -- bits.go:163
    refine steps_q rfl (q_bin rfl rfl rfl) ?_  -- bits.go:163
    refine steps_q rfl (q_bin rfl rfl rfl) ?_  -- bits.go:163
    refine steps_q rfl (q_assign rfl) ?_  -- bits.go:163
    refine steps_nil ?_
    refine cw_sr ?_
    refine steps_q rfl (q_move rfl) ?_  -- bits.go:164
    refine steps_q rfl (q_move rfl) ?_  -- bits.go:164
    refine steps_q rfl (q_bin rfl rfl rfl) ?_  -- bits.go:164
    refine steps_q rfl (q_bin rfl rfl rfl) ?_  -- bits.go:164
    refine steps_q rfl (q_assign rfl) ?_  -- bits.go:164
    refine steps_nil ?_
    refine cw_sr ?_
    refine steps_q rfl (q_move rfl) ?_  -- bits.go:165
    refine steps_q rfl (q_move rfl) ?_  -- bits.go:165
    refine steps_q rfl (q_bin rfl rfl rfl) ?_  -- bits.go:165
    refine steps_q rfl (q_bin rfl rfl rfl) ?_  -- bits.go:165
    refine steps_q rfl (q_assign rfl) ?_  -- bits.go:165
    refine steps_nil ?_
    refine cw_sr ?_
    refine steps_q rfl (q_move rfl) ?_  -- bits.go:166
    refine steps_q rfl (q_move rfl) ?_  -- bits.go:166
    refine steps_q rfl (q_bin rfl rfl rfl) ?_  -- bits.go:166
    refine steps_q rfl (q_bin rfl rfl rfl) ?_  -- bits.go:166
    refine steps_q rfl (q_assign rfl) ?_  -- bits.go:166
    refine steps_nil ?_
    refine cw_sr ?_
    refine steps_q rfl (q_move rfl) ?_  -- bits.go:167
    refine steps_q rfl (q_conv conv23_3 rfl rfl) ?_  -- bits.go:167
    refine steps_q rfl (q_bin rfl rfl rfl) ?_  -- bits.go:167
    refine steps_q rfl (q_assign rfl) ?_  -- bits.go:167
    refine steps_nil ?_
    refine cw_ret ?_
    exact ret_pure rfl (rv_tmp rfl rv_nil) (by kernel_rfl)
theorem bits_OnesCount {x : Int} (h : Small15 x) : PureF Try.prog 64 [.int .u64 x] (.int .i64 (popc x)) := by
  refine pure_of Try.func64 rfl Try.ntmps64 rfl fun w => ?_
  refine cw_sr ?_
  refine steps_q rfl (q_assign rfl) ?_  -- bits.go:117
  refine steps_nil ?_
  refine cw_seq ?_
  refine cw_cond _ rfl (fun hc1 => ?_) (fun hc1 => ?_)
  · cases hc1
  · -- no 1
    refine cw_skip ?_
    refine at_then ?_
    refine cw_sr ?_
    refine steps_q rfl (q_move rfl) ?_  -- bits.go:121
    refine steps_q rfl (q_pure ent82 rfl (bits_OnesCount64 h)) ?_  -- bits.go:121
    refine steps_q rfl (q_assign rfl) ?_  -- bits.go:121
    refine steps_nil ?_
    refine cw_ret ?_
    exact ret_pure rfl (rv_tmp rfl rv_nil) rfl
end Go.Proofs.Ytomdahjakkifbaa

/-
  The walks of package simplex: sized.
-/
namespace Go.Proofs.Ytomdahjakkifbaa
open Go Go.NP Go.RowKit Go.Proofs
set_option maxRecDepth 100000

theorem shr64 {a b : Int} (h : 0 ≤ b) : binI .shr .i64 a .i64 b = some (.int .i64 (a.fdiv (2 ^ (min b.toNat IntKind.i64.bits)))) := if_pos h
/-- Is place k of n chosen by a set? -/
def bitB (n s k : Int) : Bool := (IntKind.i64.wrap (BitVec.ofInt IntKind.i64.bits (s.fdiv (2 ^ (min (n - 1 - k).toNat IntKind.i64.bits))) &&& BitVec.ofInt IntKind.i64.bits 1).toNat) == 1
def bts (n s : Int) : Nat → List Int
  | 0 => []
  | k + 1 => if bitB n s k then bts n s k ++ [(k : Int)] else bts n s k
def topI (n : Int) : Int := if n = 1 then 1 else if n = 2 then 3 else if n = 3 then 7 else 15
/-- The choices of so many, of the first m sets from the top. -/
def cmbs (n size : Int) : Nat → List (List Int)
  | 0 => []
  | m + 1 => if popc (topI n - m) = size then cmbs n size m ++ [bts n (topI n - m) n.toNat] else cmbs n size m
def sizedI (n size : Int) : List (List Int) := cmbs n size (topI n).toNat
theorem bts_le (n s : Int) : ∀ k, (bts n s k).length ≤ k
  | 0 => Nat.le_refl 0
  | k + 1 => by
    have := bts_le n s k
    simp only [bts]; split
    · simp; omega
    · omega
theorem cmbs_le (n size : Int) : ∀ m, (cmbs n size m).length ≤ m
  | 0 => Nat.le_refl 0
  | k + 1 => by
    have := cmbs_le n size k
    simp only [cmbs]; split
    · simp; omega
    · omega
def N4 (n : Int) : Prop := n = 1 ∨ n = 2 ∨ n = 3 ∨ n = 4
theorem n4 {n : Int} (h0 : 1 ≤ n) (h1 : n ≤ 4) : N4 n := by unfold N4; omega
theorem top_sh {n : Int} (h : N4 n) : shI .i64 1 n = topI n + 1 ∧ 1 ≤ topI n ∧ topI n ≤ 15 := by
  rcases h with rfl | rfl | rfl | rfl <;> decide
theorem bts_len {n s : Int} (h : N4 n) (h0 : 0 < s) (h1 : s ≤ topI n) : ((bts n s n.toNat).length : Int) = popc s := by
  have hs := small15 h0 (Int.le_trans h1 (top_sh h).2.2)
  rcases h with rfl | rfl | rfl | rfl <;> rcases hs with rfl | rfl | rfl | rfl | rfl | rfl | rfl | rfl | rfl | rfl | rfl | rfl | rfl | rfl | rfl <;> first | rfl | (exfalso; revert h1; decide)

/-- The choices, as the program has them. -/
def okRow (inn : List (Nat × List Value × Nat)) (cs : List (List Int)) : Prop := inn.length = cs.length ∧ ∀ (j : Nat) q c, inn[j]? = some q → cs[j]? = some c → SV.ok 1 (some q) (c.map intC)
def valsOf : List (Nat × List Value × Nat) → List (List Int) → List (List Value)
  | q :: r, c :: s => [.slice (some ⟨q.1, 0, none⟩) c.length q.2.2] :: valsOf r s
  | _, _ => []
theorem valsOf_len : ∀ {inn : List (Nat × List Value × Nat)} {cs : List (List Int)}, inn.length = cs.length → (valsOf inn cs).length = cs.length
  | [], [], _ => rfl
  | _ :: _, _ :: _, h => by simp only [valsOf, List.length_cons, valsOf_len (Nat.succ.inj h)]
  | [], _ :: _, h => by cases h
  | _ :: _, [], h => by cases h
theorem valsOf_get : ∀ {inn : List (Nat × List Value × Nat)} {cs : List (List Int)} {j : Nat} {q : Nat × List Value × Nat} {c : List Int}, inn[j]? = some q → cs[j]? = some c → (valsOf inn cs)[j]? = some [.slice (some ⟨q.1, 0, none⟩) c.length q.2.2]
  | _ :: _, _ :: _, 0, _, _, h, k => by simp at h k; subst h k; rfl
  | _ :: _, _ :: _, j + 1, _, _, h, k => by simpa [valsOf] using valsOf_get (by simpa using h) (by simpa using k)
  | [], _, _, _, _, h, _ => by simp at h
  | _ :: _, [], _, _, _, _, k => by simp at k
theorem valsOf_more : ∀ {inn : List (Nat × List Value × Nat)} {cs : List (List Int)} (q : Nat × List Value × Nat) (c : List Int), inn.length = cs.length → valsOf (inn ++ [q]) (cs ++ [c]) = valsOf inn cs ++ [[.slice (some ⟨q.1, 0, none⟩) c.length q.2.2]]
  | [], [], _, _, _ => rfl
  | _ :: _, _ :: _, q, c, h => by simp only [List.cons_append, valsOf, valsOf_more q c (Nat.succ.inj h)]
  | [], _ :: _, _, _, h => by cases h
  | _ :: _, [], _, _, h => by cases h
theorem okRow_more {inn : List (Nat × List Value × Nat)} {cs : List (List Int)} {q : Nat × List Value × Nat} {c : List Int} (h : okRow inn cs) (hq : SV.ok 1 (some q) (c.map intC)) : okRow (inn ++ [q]) (cs ++ [c]) := by
  refine ⟨by simp [h.1], fun j q' c' h1 h2 => ?_⟩
  by_cases hj : j < inn.length
  · rw [List.getElem?_append_left hj] at h1
    rw [List.getElem?_append_left (by have := h.1; omega)] at h2
    exact h.2 j q' c' h1 h2
  · have hj' : j = inn.length := by
      have := (List.getElem?_eq_some_iff.1 h1).1
      simp at this; omega
    subst hj'
    rw [List.getElem?_append_right (Nat.le_refl _)] at h1
    rw [List.getElem?_append_right (by have := h.1; omega), h.1] at h2
    simp at h1 h2
    subst h1 h2
    exact hq
theorem bslS (g n cap : Nat) : ∀ w, (Instr.buildSlice 88 1 [(0, Value.slice (some ⟨g, 0, none⟩) n cap)].toArray).run Try.prog w = .ok (.slice (some ⟨w.heap.size, 0, none⟩) 1 1) (w.alloc (.cells [Value.slice (some ⟨g, 0, none⟩) n cap].toArray 29)) := fun w => by kernel_rfl
theorem sized_ne {n size : Int} (h : N4 n) (s0 : 1 ≤ size) (s1 : size ≤ n) : sizedI n size ≠ [] := by
  rcases h with rfl | rfl | rfl | rfl
  · obtain rfl : size = 1 := by omega
    decide
  · have : size = 1 ∨ size = 2 := by omega
    rcases this with rfl | rfl <;> decide
  · have : size = 1 ∨ size = 2 ∨ size = 3 := by omega
    rcases this with rfl | rfl | rfl <;> decide
  · have : size = 1 ∨ size = 2 ∨ size = 3 ∨ size = 4 := by omega
    rcases this with rfl | rfl | rfl | rfl <;> decide
theorem SV.len0 {s : Nat} {xs : List (List Value)} (h : SV.ok s none xs) : xs.length = 0 := by have h : xs = [] := h; rw [h]; rfl
theorem row_top {e : TypeId} {r : List (Nat × List Value × Nat)} {x : Nat × Obj} (h : r.length ≤ 4000) : SubR (fun i => if i = 5000 then 62 else i) ((5000, x) :: rowL e 1000 r) ((62, x) :: rowL e 1000 r) := by
  have hr : ∀ i y, NP.look (rowL e 1000 r) i = some y → 1000 ≤ i ∧ i < 5000 := fun i y hi => by
    obtain ⟨h1, q, h2, _⟩ := look_rowL hi
    have := (List.getElem?_eq_some_iff.1 h2).1
    omega
  refine ⟨fun i y hi => ?_, fun i k y z hi hk he => ?_⟩
  · show NP.look _ (if i = 5000 then 62 else i) = _
    rw [look_cons] at hi
    split at hi
    · rename_i e5; subst e5; rw [if_pos rfl, look_cons, if_pos rfl]; exact hi
    · rename_i e5
      have := hr i y hi
      rw [if_neg (by omega), look_cons, if_neg (by omega)]
      exact hi
  · have he : (if i = 5000 then 62 else i) = (if k = 5000 then 62 else k) := he
    rw [look_cons] at hi hk
    split at hi <;> split at hk
    · omega
    · have := hr k z hk; split at he <;> split at he <;> omega
    · have := hr i y hi; split at he <;> split at he <;> omega
    · have := hr k z hk; have := hr i y hi; split at he <;> split at he <;> omega
/-- What sized hands back. -/
def ZR (cs : List (List Int)) (v : Value) (Ln : HL) : Prop := ∃ g cur cap inn, v = .slice (some ⟨g, 0, none⟩) cs.length cap ∧ Ln = (5000, (g, .cells cur.toArray 29 (0, 0))) :: rowL 3 1000 inn ∧ okRow inn cs ∧ SV.ok 1 (some (g, cur, cap)) (valsOf inn cs)

set_option maxHeartbeats 4000000 in
theorem simplex_sized {n size : Int} (w : World) (hn : N4 n) (s0 : 1 ≤ size) (s1 : size ≤ n) :
    Calls Try.prog 43 #[.int .i64 n, .int .i64 size] w fun e w' => ∃ v Ln, e = .returned v ∧ ZR (sizedI n size) v Ln ∧ St w [] w' Ln := by
  obtain ⟨t1, t2, t3⟩ := top_sh hn
  have nb : 1 ≤ n ∧ n ≤ 4 := by unfold N4 at hn; omega
  refine calls_of Try.func43 rfl Try.ntmps43 rfl (St.start w) (args := [.int .i64 n, .int .i64 size]) ?_
  refine cw_sr ?_
  refine steps_q rfl (q_assign rfl) ?_  -- simplex.go:49
  refine steps_nil ?_
  refine cw_sr ?_
  refine steps_q rfl (q_assign rfl) ?_  -- simplex.go:50
  refine steps_nil ?_
  refine cw_seq ?_
  refine cw_sr ?_
  refine steps_q rfl (q_move rfl) ?_  -- simplex.go:51
  refine steps_q rfl (q_bin rfl rfl (show binI .shl .i64 1 .i64 n = some (.int .i64 (topI n + 1)) by rw [← t1]; exact if_pos (by omega))) ?_  -- simplex.go:51
  refine steps_q rfl (q_bin rfl rfl (sub64 (by omega) (by omega))) ?_  -- simplex.go:51
  refine steps_q rfl (q_assign rfl) ?_  -- simplex.go:51
  refine steps_nil ?_
  refine cw_block ?_
  -- LOOP 1 writes [5, 6, 7, 8, 12, 13, 14, 15, 16, 17, 18, 19, 20, 21, 22, 23, 24, 25, 26, 27, 28, 29, 30, 31, 32, 33, 34, 35, 36, 37, 38, 39, 40, 41]  stores via []  reads [0, 1]
  refine cw_loop (S := Nat × SV × List (Nat × List Value × Nat)) (fun s => [(0, .int .i64 n), (1, .int .i64 size), (5, s.2.1.v (cmbs n size s.1).length), (6, .int .i64 (topI n - s.1))]) (fun s => s.2.1.l 62 29 ++ rowL 3 1000 s.2.2) (fun s => (s.1 : Int) ≤ topI n ∧ okRow s.2.2 (cmbs n size s.1) ∧ s.2.1.ok 1 (valsOf s.2.2 (cmbs n size s.1))) (fun s => (topI n - s.1).toNat) (0, none, []) ⟨by dsimp only; omega, ⟨rfl, fun j q c h => by simp at h⟩, rfl⟩ (subs ⟨rfl, rfl, rfl, by dsimp only; rw [show topI n + 1 - 1 = topI n - ((0 : Nat) : Int) by omega]; rfl, trivial⟩) (subs trivial) ?_
  rintro ⟨m, out, inn⟩ ⟨m0, hrow, hout⟩
  dsimp only at m0 hrow hout
  conv => enter [7]; dsimp only
  conv => enter [8]; dsimp only
  have hcl := cmbs_le n size m
  have hvl := valsOf_len hrow.1
  refine cw_seq ?_
  refine cw_sr ?_
  refine steps_q rfl (q_move rfl) ?_  -- simplex.go:51
  refine steps_q rfl (q_bin rfl rfl rfl) ?_  -- simplex.go:51
  refine steps_nil ?_
  refine cw_cond _ rfl (fun hc1 => ?_) (fun hc1 => ?_)
  · -- yes 1
    have hs : 0 < topI n - m := of_decide_eq_true hc1
    have h15 := small15 hs (by omega)
    refine cw_skip ?_
    refine at_then ?_
    refine cw_seq ?_
    refine cw_block ?_
    refine cw_seq ?_
    refine cw_sr ?_
    refine steps_q rfl (q_move rfl) ?_  -- simplex.go:52
    refine steps_q rfl (q_conv conv3_75 rfl rfl) ?_  -- simplex.go:52
    rw [IntWalk.u64_in _ (by omega)]
    refine steps_q rfl (q_pure ent64 rfl (bits_OnesCount h15)) ?_  -- simplex.go:52
    refine steps_q rfl (q_move rfl) ?_  -- simplex.go:52
    refine steps_q rfl (q_bin rfl rfl rfl) ?_  -- simplex.go:52
    refine steps_nil ?_
    refine cw_cond _ rfl (fun hc2 => ?_) (fun hc2 => ?_)
    · -- yes 2
      have hp : ¬ popc (topI n - m) = size := by simpa using hc2
      have ec : cmbs n size (m + 1) = cmbs n size m := if_neg hp
      refine cw_exit ?_
      refine at_then ?_
      refine cw_region ?_
      refine steps_q rfl (q_move rfl) ?_  -- simplex.go:51
      refine steps_q rfl (q_bin rfl rfl (sub64 (by omega) (by omega))) ?_  -- simplex.go:51
      refine steps_q rfl (q_assign rfl) ?_  -- simplex.go:51
      refine steps_nil ?_
      first
        | exact at_round (m + 1, out, inn) ⟨by dsimp only; omega, by dsimp only; rw [ec]; exact hrow, by dsimp only; rw [ec]; exact hout⟩ (by dsimp only; omega) (subs ⟨rfl, rfl, by dsimp only; rw [ec]; rfl, by dsimp only; rw [show topI n - ((m + 1 : Nat) : Int) = topI n - m - 1 by omega]; rfl, trivial⟩) (SubL.refl _)
        | refine At.ren _ (at_round (m + 1, some (g2, cur2, cap2), inn ++ [(g1, cur1, cap1)]) ⟨by dsimp only; omega, by dsimp only; exact hrm, by dsimp only; rw [hvm]; exact hk2⟩ (by dsimp only; omega) (subs ⟨rfl, rfl, by dsimp only; rw [elc]; rfl, by dsimp only; rw [show topI n - ((m + 1 : Nat) : Int) = topI n - m - 1 by omega]; rfl, trivial⟩) (SubL.refl _)) (row_more (A := [(62, (g2, .cells cur2.toArray 29 (0, 0)))]) (g1, cur1, cap1) 61 rfl (subs ⟨rfl, trivial⟩) (by repeat (first | exact SubL.refl _ | refine rowl_cons rfl ?_)) rfl rfl rfl)
    · -- no 2
      have hp : popc (topI n - m) = size := by simpa using hc2
      have ec : cmbs n size (m + 1) = cmbs n size m ++ [bts n (topI n - m) n.toNat] := if_pos hp
      obtain ⟨R, hRe⟩ : ∃ R : HL, R = out.l 62 29 ++ rowL 3 1000 inn := ⟨_, rfl⟩
      have hR : ∀ i, Nat.blt i 1000 = true → i ≠ 62 → NP.look R i = none := fun i hi h62 => by
        have hi : i < 1000 := by simpa [Nat.blt_eq] using hi
        rw [hRe, look_append]
        have h2 : NP.look (rowL 3 1000 inn) i = none := by
          cases hl : NP.look (rowL 3 1000 inn) i with
          | none => rfl
          | some y => have := (look_rowL hl).1; omega
        rcases out with _ | ⟨g, cur, cap⟩
        · exact h2
        · simp only [SV.l]
          rw [look_cons, if_neg (by omega)]
          exact h2
      rw [← hRe]
      refine cw_skip ?_
      refine at_then ?_
      refine cw_sr ?_
      refine steps_q rfl (q_assign rfl) ?_  -- simplex.go:55
      refine steps_nil ?_
      refine cw_seq ?_
      refine cw_sr ?_
      refine steps_q rfl (q_move rfl) ?_  -- simplex.go:56
      refine steps_q rfl (q_move rfl) ?_  -- simplex.go:56
      refine steps_nil ?_
      refine cw_block ?_
      -- LOOP 2 writes [7, 8, 22, 23, 24, 25, 26, 27, 28, 29, 30, 31, 32, 33, 34, 35, 36, 37]  stores via []  reads [0, 6, 21]
      refine cw_loop (S := Nat × SV) (fun s => [(0, .int .i64 n), (1, .int .i64 size), (5, out.v (cmbs n size m).length), (6, .int .i64 (topI n - m)), (7, s.2.v (bts n (topI n - m) s.1).length), (21, .int .i64 n), (22, .int .i64 s.1)]) (fun s => s.2.l 61 3 ++ R) (fun s => (s.1 : Int) ≤ n ∧ s.2.ok 1 ((bts n (topI n - m) s.1).map intC)) (fun s => (n - s.1).toNat) (0, none) ⟨by dsimp only; omega, rfl⟩ (subs ⟨rfl, rfl, rfl, rfl, rfl, rfl, rfl, trivial⟩) (SubL.refl _) ?_
      rintro ⟨k, l⟩ ⟨k1, hl⟩
      dsimp only at k1 hl
      conv => enter [7]; dsimp only
      conv => enter [8]; dsimp only
      have hbl := bts_le n (topI n - m) k
      have hml : ((bts n (topI n - m) k).map intC).length = (bts n (topI n - m) k).length := List.length_map _
      refine cw_sr ?_
      refine steps_q rfl (q_bin rfl rfl rfl) ?_  -- simplex.go:56
      refine steps_nil ?_
      refine cw_seq ?_
      refine cw_cond _ rfl (fun hc3 => ?_) (fun hc3 => ?_)
      · -- yes 3
        have hk : (k : Int) < n := of_decide_eq_true hc3
        refine cw_skip ?_
        refine at_then ?_
        refine cw_seq ?_
        refine cw_block ?_
        refine cw_sr ?_
        refine steps_q rfl (q_move rfl) ?_  -- simplex.go:56
        refine steps_q rfl (q_assign rfl) ?_  -- simplex.go:56
        refine steps_nil ?_
        refine cw_sr ?_
        refine steps_q rfl (q_move rfl) ?_  -- simplex.go:57
        refine steps_q rfl (q_move rfl) ?_  -- simplex.go:57
        refine steps_q rfl (q_bin rfl rfl (sub64 (by omega) (by omega))) ?_  -- simplex.go:57
        refine steps_q rfl (q_move rfl) ?_  -- simplex.go:57
        refine steps_q rfl (q_bin rfl rfl (sub64 (by omega) (by omega))) ?_  -- simplex.go:57
        refine steps_q rfl (q_bin rfl rfl (shr64 (by omega))) ?_  -- simplex.go:57
        refine steps_q rfl (q_bin rfl rfl rfl) ?_  -- simplex.go:57
        refine steps_q rfl (q_bin rfl rfl rfl) ?_  -- simplex.go:57
        refine steps_nil ?_
        refine cw_cond _ rfl (fun hc4 => ?_) (fun hc4 => ?_)
        · -- yes 4
          have hb : bitB n (topI n - m) k = true := hc4
          have eb : bts n (topI n - m) (k + 1) = bts n (topI n - m) k ++ [(k : Int)] := if_pos hb
          have el : (bts n (topI n - m) (k + 1)).length = (bts n (topI n - m) k).length + 1 := by rw [eb]; simp
          rcases l with _ | ⟨g1, cur1, cap1⟩
          · -- way 11.a
            refine cw_region ?_
            refine steps_q rfl (q_move rfl) ?_  -- simplex.go:58
            refine steps_q rfl (q_move rfl) ?_  -- simplex.go:58
            refine steps_s (s_buildSl 35 rfl rfl rfl (bslI k) fun b35 => ?_)  -- simplex.go:58
            refine steps_s (s_appendN 61 35 none (bts n (topI n - m) k).length ((bts n (topI n - m) k).map intC) (intC k) hml elt29 rfl rfl hl (subs trivial) rfl rfl rfl rfl (by omega) (by unfold maxLen; omega) fun g1 cur1 cap1 hk1 => ?_)  -- simplex.go:58
            refine steps_q rfl (q_assign rfl) ?_  -- simplex.go:58
            refine steps_nil ?_
            refine at_then ?_
            refine cw_region ?_
            refine steps_q rfl (q_bin rfl rfl (add64 (by omega) (by omega))) ?_  -- simplex.go:56
            refine steps_q rfl (q_move rfl) ?_  -- simplex.go:56
            refine steps_nil ?_
            first
              | exact at_round (k + 1, l) ⟨by dsimp only; omega, by dsimp only; rw [eb]; exact hl⟩ (by dsimp only; omega) (subs ⟨rfl, rfl, rfl, rfl, by dsimp only; rw [eb]; rfl, rfl, by dsimp only; rw [show ((k + 1 : Nat) : Int) = k + 1 by omega]; rfl, trivial⟩) (SubL.refl _)
              | exact at_round (k + 1, some (g1, cur1, cap1)) ⟨by dsimp only; omega, by dsimp only; rw [eb, List.map_append]; exact hk1⟩ (by dsimp only; omega) (subs ⟨rfl, rfl, rfl, rfl, by dsimp only; rw [el]; rfl, rfl, by dsimp only; rw [show ((k + 1 : Nat) : Int) = k + 1 by omega]; rfl, trivial⟩) (sub_app (subs ⟨rfl, trivial⟩) (by repeat (first | exact SubL.refl _ | refine SubL.cons ?_ (hR _ rfl (by decide)))))
          · -- way 11.b
            refine cw_region ?_
            refine steps_q rfl (q_move rfl) ?_  -- simplex.go:58
            refine steps_q rfl (q_move rfl) ?_  -- simplex.go:58
            refine steps_s (s_buildSl 35 rfl rfl rfl (bslI k) fun b35 => ?_)  -- simplex.go:58
            refine steps_s (s_appendN 61 35 (some (g1, cur1, cap1)) (bts n (topI n - m) k).length ((bts n (topI n - m) k).map intC) (intC k) hml elt29 rfl rfl hl (subs ⟨rfl, trivial⟩) rfl rfl rfl rfl (by omega) (by unfold maxLen; omega) fun g1 cur1 cap1 hk1 => ?_)  -- simplex.go:58
            refine steps_q rfl (q_assign rfl) ?_  -- simplex.go:58
            refine steps_nil ?_
            refine at_then ?_
            refine cw_region ?_
            refine steps_q rfl (q_bin rfl rfl (add64 (by omega) (by omega))) ?_  -- simplex.go:56
            refine steps_q rfl (q_move rfl) ?_  -- simplex.go:56
            refine steps_nil ?_
            first
              | exact at_round (k + 1, l) ⟨by dsimp only; omega, by dsimp only; rw [eb]; exact hl⟩ (by dsimp only; omega) (subs ⟨rfl, rfl, rfl, rfl, by dsimp only; rw [eb]; rfl, rfl, by dsimp only; rw [show ((k + 1 : Nat) : Int) = k + 1 by omega]; rfl, trivial⟩) (SubL.refl _)
              | exact at_round (k + 1, some (g1, cur1, cap1)) ⟨by dsimp only; omega, by dsimp only; rw [eb, List.map_append]; exact hk1⟩ (by dsimp only; omega) (subs ⟨rfl, rfl, rfl, rfl, by dsimp only; rw [el]; rfl, rfl, by dsimp only; rw [show ((k + 1 : Nat) : Int) = k + 1 by omega]; rfl, trivial⟩) (sub_app (subs ⟨rfl, trivial⟩) (by repeat (first | exact SubL.refl _ | refine SubL.cons ?_ (hR _ rfl (by decide)))))
        · -- no 4
          have hb : ¬ bitB n (topI n - m) k = true := by rw [show bitB n (topI n - m) k = false from hc4]; decide
          have eb : bts n (topI n - m) (k + 1) = bts n (topI n - m) k := if_neg hb
          refine cw_skip ?_
          refine at_then ?_
          refine cw_region ?_
          refine steps_q rfl (q_bin rfl rfl (add64 (by omega) (by omega))) ?_  -- simplex.go:56
          refine steps_q rfl (q_move rfl) ?_  -- simplex.go:56
          refine steps_nil ?_
          first
            | exact at_round (k + 1, l) ⟨by dsimp only; omega, by dsimp only; rw [eb]; exact hl⟩ (by dsimp only; omega) (subs ⟨rfl, rfl, rfl, rfl, by dsimp only; rw [eb]; rfl, rfl, by dsimp only; rw [show ((k + 1 : Nat) : Int) = k + 1 by omega]; rfl, trivial⟩) (SubL.refl _)
            | exact at_round (k + 1, some (g1, cur1, cap1)) ⟨by dsimp only; omega, by dsimp only; rw [eb, List.map_append]; exact hk1⟩ (by dsimp only; omega) (subs ⟨rfl, rfl, rfl, rfl, by dsimp only; rw [el]; rfl, rfl, by dsimp only; rw [show ((k + 1 : Nat) : Int) = k + 1 by omega]; rfl, trivial⟩) (sub_app (subs ⟨rfl, trivial⟩) (by repeat (first | exact SubL.refl _ | refine SubL.cons ?_ (hR _ rfl (by decide)))))
      · -- no 3
        have hk : ¬ (k : Int) < n := of_decide_eq_false hc3
        have hkn : k = n.toNat := by omega
        subst hkn
        have hbl0 := bts_len hn hs (by omega)
        rcases l with _ | ⟨g1, cur1, cap1⟩
        · have := SV.len0 hl; rw [hml] at this; omega
        have hq : SV.ok 1 (some (g1, cur1, cap1)) ((bts n (topI n - m) n.toNat).map intC) := hl
        rw [hRe]
        have hvm := valsOf_more (g1, cur1, cap1) (bts n (topI n - m) n.toNat) hrow.1
        have hrm := okRow_more hrow hq
        rw [← ec] at hvm hrm
        have elc : (cmbs n size (m + 1)).length = (cmbs n size m).length + 1 := by rw [ec]; simp
        refine cw_exit ?_
        refine at_then ?_
        rcases out with _ | ⟨g2, cur2, cap2⟩
        · -- way 13.a
          refine cw_region ?_
          refine steps_q rfl (q_move rfl) ?_  -- simplex.go:61
          refine steps_q rfl (q_move rfl) ?_  -- simplex.go:61
          refine steps_s (s_buildSl 40 rfl rfl rfl (bslS g1 (bts n (topI n - m) n.toNat).length cap1) fun b40 => ?_)  -- simplex.go:61
          refine steps_s (s_appendN 62 40 none (cmbs n size m).length (valsOf inn (cmbs n size m)) [.slice (some ⟨g1, 0, none⟩) (bts n (topI n - m) n.toNat).length cap1] hvl elt88 rfl rfl hout (subs trivial) rfl rfl rfl rfl (by omega) (by unfold maxLen; omega) fun g2 cur2 cap2 hk2 => ?_)  -- simplex.go:61
          refine steps_q rfl (q_assign rfl) ?_  -- simplex.go:61
          refine steps_nil ?_
          refine at_then ?_
          refine cw_region ?_
          refine steps_q rfl (q_move rfl) ?_  -- simplex.go:51
          refine steps_q rfl (q_bin rfl rfl (sub64 (by omega) (by omega))) ?_  -- simplex.go:51
          refine steps_q rfl (q_assign rfl) ?_  -- simplex.go:51
          refine steps_nil ?_
          first
            | exact at_round (m + 1, out, inn) ⟨by dsimp only; omega, by dsimp only; rw [ec]; exact hrow, by dsimp only; rw [ec]; exact hout⟩ (by dsimp only; omega) (subs ⟨rfl, rfl, by dsimp only; rw [ec]; rfl, by dsimp only; rw [show topI n - ((m + 1 : Nat) : Int) = topI n - m - 1 by omega]; rfl, trivial⟩) (SubL.refl _)
            | refine At.ren _ (at_round (m + 1, some (g2, cur2, cap2), inn ++ [(g1, cur1, cap1)]) ⟨by dsimp only; omega, by dsimp only; exact hrm, by dsimp only; rw [hvm]; exact hk2⟩ (by dsimp only; omega) (subs ⟨rfl, rfl, by dsimp only; rw [elc]; rfl, by dsimp only; rw [show topI n - ((m + 1 : Nat) : Int) = topI n - m - 1 by omega]; rfl, trivial⟩) (SubL.refl _)) (row_more (A := [(62, (g2, .cells cur2.toArray 29 (0, 0)))]) (g1, cur1, cap1) 61 rfl (subs ⟨rfl, trivial⟩) (by repeat (first | exact SubL.refl _ | refine rowl_cons rfl ?_)) rfl rfl rfl)
        · -- way 13.b
          refine cw_region ?_
          refine steps_q rfl (q_move rfl) ?_  -- simplex.go:61
          refine steps_q rfl (q_move rfl) ?_  -- simplex.go:61
          refine steps_s (s_buildSl 40 rfl rfl rfl (bslS g1 (bts n (topI n - m) n.toNat).length cap1) fun b40 => ?_)  -- simplex.go:61
          refine steps_s (s_appendN 62 40 (some (g2, cur2, cap2)) (cmbs n size m).length (valsOf inn (cmbs n size m)) [.slice (some ⟨g1, 0, none⟩) (bts n (topI n - m) n.toNat).length cap1] hvl elt88 rfl rfl hout (subs ⟨rfl, trivial⟩) rfl rfl rfl rfl (by omega) (by unfold maxLen; omega) fun g2 cur2 cap2 hk2 => ?_)  -- simplex.go:61
          refine steps_q rfl (q_assign rfl) ?_  -- simplex.go:61
          refine steps_nil ?_
          refine at_then ?_
          refine cw_region ?_
          refine steps_q rfl (q_move rfl) ?_  -- simplex.go:51
          refine steps_q rfl (q_bin rfl rfl (sub64 (by omega) (by omega))) ?_  -- simplex.go:51
          refine steps_q rfl (q_assign rfl) ?_  -- simplex.go:51
          refine steps_nil ?_
          first
            | exact at_round (m + 1, out, inn) ⟨by dsimp only; omega, by dsimp only; rw [ec]; exact hrow, by dsimp only; rw [ec]; exact hout⟩ (by dsimp only; omega) (subs ⟨rfl, rfl, by dsimp only; rw [ec]; rfl, by dsimp only; rw [show topI n - ((m + 1 : Nat) : Int) = topI n - m - 1 by omega]; rfl, trivial⟩) (SubL.refl _)
            | refine At.ren _ (at_round (m + 1, some (g2, cur2, cap2), inn ++ [(g1, cur1, cap1)]) ⟨by dsimp only; omega, by dsimp only; exact hrm, by dsimp only; rw [hvm]; exact hk2⟩ (by dsimp only; omega) (subs ⟨rfl, rfl, by dsimp only; rw [elc]; rfl, by dsimp only; rw [show topI n - ((m + 1 : Nat) : Int) = topI n - m - 1 by omega]; rfl, trivial⟩) (SubL.refl _)) (row_more (A := [(62, (g2, .cells cur2.toArray 29 (0, 0)))]) (g1, cur1, cap1) 61 rfl (subs ⟨rfl, trivial⟩) (by repeat (first | exact SubL.refl _ | refine rowl_cons rfl ?_)) rfl rfl rfl)
  · -- no 1
    have hs : ¬ 0 < topI n - m := of_decide_eq_false hc1
    have hm : m = (topI n).toNat := by omega
    subst hm
    have hne := sized_ne hn s0 s1
    rcases out with _ | ⟨g2, cur2, cap2⟩
    · exfalso
      have := SV.len0 hout
      rw [hvl] at this
      exact hne (List.length_eq_zero_iff.1 this)
    refine cw_exit ?_
    refine at_then ?_
    refine cw_sr ?_
    refine steps_q rfl (q_move rfl) ?_  -- simplex.go:63
    refine steps_q rfl (q_assign rfl) ?_  -- simplex.go:63
    refine steps_nil ?_
    refine cw_ret ?_
    exact at_ret rfl (rv_tmp rfl rv_nil) fun w' hw => ⟨_, _, rfl, ⟨g2, cur2, cap2, inn, rfl, rfl, hrow, hout⟩, hw.ren _ (row_top (by rw [hrow.1]; omega))⟩
end Go.Proofs.Ytomdahjakkifbaa

/-
  The walks of package simplex: choices.
-/
namespace Go.Proofs.Ytomdahjakkifbaa
open Go Go.NP Go.RowKit Go.Proofs
set_option maxRecDepth 100000

def upto (n : Int) : Nat → List (List Int)
  | 0 => []
  | k + 1 => upto n k ++ sizedI n (k + 1)
/-- The choices of some of n places. -/
def choicesI (n : Int) : List (List Int) := upto n n.toNat
theorem upto_more {n : Int} {k : Nat} : ∀ {m : Nat}, k ≤ m → ∀ {j : Nat} {c : List Int}, (upto n k)[j]? = some c → (upto n m)[j]? = some c
  | 0, h, j, c, hc => by
    obtain rfl : k = 0 := by omega
    exact hc
  | m + 1, h, j, c, hc => by
    by_cases hk : k = m + 1
    · subst hk; exact hc
    · have := upto_more (m := m) (by omega) hc
      rw [upto, List.getElem?_append_left (List.getElem?_eq_some_iff.1 this).1]
      exact this
theorem part1 {l : List Value} {off : Nat} {v : Value} (h : Part l off 1 [v]) : l[off]? = some v := by
  obtain ⟨h1, _⟩ := h
  have := congrArg (·[0]?) h1
  simpa using this
/-- What choices hands out in a round. -/
def XC (n : Int) (i : Nat) (x : List Value) (Lo : HL) : Prop := ∃ c g cur cap j, (choicesI n)[i]? = some c ∧ x = [.slice (some ⟨g, 0, none⟩) c.length cap] ∧ NP.look Lo j = some (g, .cells cur.toArray 3 (0, 0)) ∧ SV.ok 1 (some (g, cur, cap)) (c.map intC)
def NeedC (b : Nat) (n : Int) (L : HL) : Prop := NP.look L 54 = some (b, .cells [.int .i64 n].toArray 3 (0, 0))
theorem simplex_choices (n : Int) (w : World) : Calls Try.prog 25 [.int .i64 n].toArray w fun e w' => ∃ v Ln, e = .returned v ∧
    (∃ b, v = .func (.func 42) #[] #[.pointer (some ⟨b, 0, none⟩)] ∧ Ln = [(54, (b, .cells [.int .i64 n].toArray 3 (0, 0)))]) ∧ St w [] w' Ln := by
  refine calls_of Try.func25 rfl Try.ntmps25 rfl (St.start w) ?_
  refine cw_sr ?_
  refine steps_s (s_box1 54 rfl rfl rfl fun b1 => ?_)  -- simplex.go:36
  refine steps_q rfl (q_assign rfl) ?_  -- simplex.go:36
  refine steps_nil ?_
  refine cw_sr ?_
  refine steps_q rfl (q_func rfl rfl) ?_  -- simplex.go:37
  refine steps_q rfl (q_assign rfl) ?_  -- simplex.go:37
  refine steps_nil ?_
  refine cw_ret ?_
  exact at_ret rfl (rv_tmp rfl rv_nil) fun w' hw => ⟨_, _, rfl, ⟨b1, rfl, rfl⟩, hw⟩
theorem iterx_stop {P : Program} {w0 : World} {M : List Nat} {N n i : Nat} {T : TL} {Lo Lt : HL} {fn : Func} {x : List Value} {X : Nat → List Value → HL → Prop} {J : Nat → HL → Prop} {Jx : Nat → List Value → HL → Prop} (hr : fn.results.toList = []) (hX : X i x Lo) (ho : bigL Lo = true) (hk : okL Lt = true) (h : Jx i x Lt) :
    At w0 M N D0 (bodyPost P fn fun e W' => (∃ v, e = .returned v) ∧ ∃ Lt', okL Lt' = true ∧ ((J n Lt' ∧ St w0 M W' Lt') ∨ ∃ i x Lo, X i x Lo ∧ bigL Lo = true ∧ Jx i x Lt' ∧ St w0 M W' (Lo ++ Lt'))) .ret T (Lo ++ Lt) :=
  at_ret hr rv_nil fun _ hw => ⟨⟨_, rfl⟩, Lt, hk, .inr ⟨i, x, Lo, hX, ho, h, hw⟩⟩
theorem iterx_done {P : Program} {w0 : World} {M : List Nat} {N n : Nat} {T : TL} {Lt : HL} {fn : Func} {X : Nat → List Value → HL → Prop} {J : Nat → HL → Prop} {Jx : Nat → List Value → HL → Prop} (hr : fn.results.toList = []) (hk : okL Lt = true) (h : J n Lt) :
    At w0 M N D0 (bodyPost P fn fun e W' => (∃ v, e = .returned v) ∧ ∃ Lt', okL Lt' = true ∧ ((J n Lt' ∧ St w0 M W' Lt') ∨ ∃ i x Lo, X i x Lo ∧ bigL Lo = true ∧ Jx i x Lt' ∧ St w0 M W' (Lo ++ Lt'))) .normal T Lt :=
  at_end hr rv_nil fun _ hw => ⟨⟨_, rfl⟩, Lt, hk, .inl ⟨h, hw⟩⟩
theorem simplex_choices1 (b : Nat) {n : Int} (hn : N4 n) : IterX Try.prog 42 [.pointer (some ⟨b, 0, none⟩)] (choicesI n).length (XC n) (NeedC b n) := by
  intro w0 M l J Jx hNd hR Lt W h0 hk hW
  have nb : 1 ≤ n ∧ n ≤ 4 := by unfold N4 at hn; omega
  refine calls_at Try.func42 rfl Try.ntmps42 rfl hW ?_
  refine cw_sr ?_
  refine steps_q rfl (q_assign rfl) ?_  -- simplex.go:38
  refine steps_nil ?_
  refine cw_block ?_
  -- LOOP 1 writes [3, 5, 6, 7, 8, 9, 10, 11, 12, 13, 14, 15, 16, 17, 18, 19, 20, 21, 22, 23]  stores via []  reads [0, 1]
  refine cw_loop (S := Nat × HL) (fun s => [(0, .func (.yield l) #[] #[]), (1, .pointer (some ⟨b, 0, none⟩)), (3, .int .i64 (s.1 + 1))]) (fun s => s.2) (fun s => s.1 ≤ n.toNat ∧ J (upto n s.1).length s.2 ∧ okL s.2 = true) (fun s => n.toNat + 1 - s.1) (0, Lt) ⟨by dsimp only; omega, h0, hk⟩ (subs ⟨rfl, rfl, rfl, trivial⟩) (SubL.refl _) ?_
  rintro ⟨k, L1⟩ ⟨k1, hJ1, hk1⟩
  dsimp only at k1 hJ1 hk1
  conv => enter [7]; dsimp only
  conv => enter [8]; dsimp only
  refine cw_seq ?_
  refine cw_sr ?_
  refine steps_q rfl (q_move rfl) ?_  -- simplex.go:38
  refine steps_q rfl (q_load1 54 one3 rfl (hNd _ _ hJ1) rfl) ?_  -- simplex.go:38
  refine steps_q rfl (q_bin rfl rfl rfl) ?_  -- simplex.go:38
  refine steps_nil ?_
  refine cw_cond _ rfl (fun hc1 => ?_) (fun hc1 => ?_)
  · -- yes 1
    have hkn : (k : Int) + 1 ≤ n := of_decide_eq_true hc1
    refine cw_skip ?_
    refine at_then ?_
    refine cw_seq ?_
    refine cw_block ?_
    refine cw_sr ?_
    refine steps_q rfl (q_load1 54 one3 rfl (hNd _ _ hJ1) rfl) ?_  -- simplex.go:39
    refine steps_q rfl (q_move rfl) ?_  -- simplex.go:39
    refine steps_s (s_callSt ent43 rfl rfl rfl (R := ZR (sizedI n (k + 1))) (fun w' hw => by simpa using simplex_sized w' hn (by omega) hkn) fun v Ln hZ => ?_)  -- simplex.go:39
    obtain ⟨g, cur, cap, inn, rfl, rfl, hrow, hsv⟩ := hZ
    obtain ⟨Lo, hLo⟩ : ∃ Lo : HL, Lo = (5000, (g, .cells cur.toArray 29 (0, 0))) :: rowL 3 1000 inn := ⟨_, rfl⟩
    have hbig : bigL Lo = true := by rw [hLo]; simp [bigL, bigL_rowL]
    have hg5 : ∀ Lt : HL, NP.look (Lo ++ Lt) 5000 = some (g, .cells cur.toArray 29 (0, 0)) := fun Lt => by rw [hLo]; rfl
    rw [← hLo]
    have hup : upto n (k + 1) = upto n k ++ sizedI n (k + 1) := by rw [upto]
    have hvl := valsOf_len hrow.1
    have hsl : (sizedI n (k + 1)).length ≤ 15 := by have := cmbs_le n (k + 1) (topI n).toNat; have := top_sh hn; unfold sizedI; omega
    refine steps_q rfl (q_lenSl Try.underlying88 rfl) ?_  -- simplex.go:39
    refine steps_q rfl (q_move rfl) ?_  -- simplex.go:39
    refine steps_nil ?_
    refine cw_block ?_
    -- LOOP 2 writes [5, 15, 16, 17, 18, 19, 20, 21, 22, 23]  stores via []  reads [0, 13, 14]
    refine cw_loop (S := Nat × HL) (fun s => [(0, .func (.yield l) #[] #[]), (1, .pointer (some ⟨b, 0, none⟩)), (3, .int .i64 (k + 1)), (13, .slice (some ⟨g, 0, none⟩) (sizedI n (k + 1)).length cap), (14, .int .i64 (sizedI n (k + 1)).length), (15, .int .i64 s.1)]) (fun s => Lo ++ s.2) (fun s => s.1 ≤ (sizedI n (k + 1)).length ∧ J ((upto n k).length + s.1) s.2 ∧ okL s.2 = true) (fun s => (sizedI n (k + 1)).length - s.1) (0, L1) ⟨by dsimp only; omega, hJ1, hk1⟩ (subs ⟨rfl, rfl, rfl, rfl, rfl, rfl, trivial⟩) (SubL.refl _) ?_
    rintro ⟨j, L2⟩ ⟨j1, hJ2, hk2⟩
    dsimp only at j1 hJ2 hk2
    conv => enter [7]; dsimp only
    conv => enter [8]; dsimp only
    refine cw_sr ?_
    refine steps_q rfl (q_bin rfl rfl rfl) ?_  -- simplex.go:39
    refine steps_nil ?_
    refine cw_seq ?_
    refine cw_cond _ rfl (fun hc2 => ?_) (fun hc2 => ?_)
    · -- yes 2
      have hj : (j : Int) < ((sizedI n (k + 1)).length : Int) := of_decide_eq_true hc2
      obtain ⟨c, hc⟩ : ∃ c, (sizedI n (k + 1))[j]? = some c := ⟨(sizedI n (k + 1))[j]'(by omega), List.getElem?_eq_getElem (by omega)⟩
      obtain ⟨q, hq⟩ : ∃ q, inn[j]? = some q := ⟨inn[j]'(by rw [hrow.1]; omega), List.getElem?_eq_getElem (by rw [hrow.1]; omega)⟩
      have hvq := valsOf_get hq hc
      have hcc : (choicesI n)[(upto n k).length + j]? = some c := upto_more (k := k + 1) (by omega) (by rw [hup, List.getElem?_append_right (by omega), Nat.add_sub_cancel_left]; exact hc)
      have hlt := (List.getElem?_eq_some_iff.1 hcc).1
      have hX : XC n ((upto n k).length + j) [.slice (some ⟨q.1, 0, none⟩) c.length q.2.2] Lo := ⟨c, q.1, q.2.1, q.2.2, 1000 + j, hcc, rfl, by rw [hLo, look_cons, if_neg (by have := (List.getElem?_eq_some_iff.1 hq).1; have := hrow.1; have := cmbs_le n (k + 1) (topI n).toNat; have := top_sh hn; unfold sizedI at *; omega)]; exact rowL_look hq, hrow.2 j q c hq hc⟩
      refine cw_skip ?_
      refine at_then ?_
      refine cw_seq ?_
      refine cw_block ?_
      refine cw_sr ?_
      refine steps_q rfl (q_indexSl slc88 rfl rfl (by omega) (by omega)) ?_  -- simplex.go:39
      refine steps_q rfl (q_load1 5000 one29 rfl (hg5 L2) (part1 (by have := SV.part hsv hvq; simpa using this))) ?_  -- simplex.go:39
      refine steps_q rfl (q_assign rfl) ?_  -- simplex.go:39
      refine steps_nil ?_
      refine cw_sr ?_
      refine steps_q rfl (q_move rfl) ?_  -- simplex.go:40
      refine steps_q rfl (q_move rfl) ?_  -- simplex.go:40
      refine steps_s (s_yieldX Lo L2 rfl rfl rfl hbig hk2 (fun W' hW' => hR _ _ Lo hlt hX hbig L2 hJ2 hk2 W' hW') fun b' Lt' hk' hb' => ?_)  -- simplex.go:40
      refine steps_q rfl (q_not rfl rfl) ?_  -- simplex.go:40
      refine steps_nil ?_
      refine cw_cond _ rfl (fun hc3 => ?_) (fun hc3 => ?_)
      · -- yes 3
        obtain rfl : b' = false := by simpa using hc3
        have hb' : Jx _ _ Lt' := hb'
        refine cw_ret ?_
        exact iterx_stop rfl hX hbig hk' hb'
      · -- no 3
        obtain rfl : b' = true := by simpa using hc3
        have hb' : J _ Lt' := hb'
        refine cw_skip ?_
        refine at_then ?_
        refine cw_region ?_
        refine steps_q rfl (q_bin rfl rfl (add64 (by omega) (by omega))) ?_  -- simplex.go:39
        refine steps_q rfl (q_move rfl) ?_  -- simplex.go:39
        refine steps_nil ?_
        exact at_round (j + 1, Lt') ⟨by dsimp only; omega, hb', hk'⟩ (by dsimp only; omega) (subs ⟨rfl, rfl, rfl, rfl, rfl, by dsimp only; rw [show ((j + 1 : Nat) : Int) = j + 1 by omega]; rfl, trivial⟩) (SubL.refl _)
    · -- no 2
      have hj : ¬ (j : Int) < ((sizedI n (k + 1)).length : Int) := of_decide_eq_false hc2
      have hjl : j = (sizedI n (k + 1)).length := by omega
      refine cw_exit ?_
      refine at_then ?_
      refine cw_region ?_
      refine steps_q rfl (q_move rfl) ?_  -- simplex.go:38
      refine steps_q rfl (q_bin rfl rfl (add64 (by omega) (by omega))) ?_  -- simplex.go:38
      refine steps_q rfl (q_assign rfl) ?_  -- simplex.go:38
      refine steps_nil ?_
      exact at_round (k + 1, L2) ⟨by dsimp only; omega, by dsimp only; rw [hup, List.length_append, ← hjl]; exact hJ2, hk2⟩ (by dsimp only; omega) (subs ⟨rfl, rfl, by dsimp only; rw [show ((k + 1 : Nat) : Int) + 1 = k + 1 + 1 by omega]; rfl, trivial⟩) (sub_right hbig hk2)
  · -- no 1
    have hkn : ¬ (k : Int) + 1 ≤ n := of_decide_eq_false hc1
    have hk' : k = n.toNat := by omega
    subst hk'
    refine cw_exit ?_
    exact iterx_done rfl hk1 hJ1
end Go.Proofs.Ytomdahjakkifbaa

/-
  The walks of package simplex: nearest.
-/
namespace Go.Proofs.Ytomdahjakkifbaa
open Go Go.NP Go.RowKit Go.Proofs
set_option maxRecDepth 100000

theorem sgn_leq (x : Int) : binI .leq .i64 (sgnI x) .i64 0 = some (.bool (decide (x ≤ 0))) := by
  simp only [binI, if_true, sgnI]
  congr 2
  split
  · rename_i h; exact (decide_eq_true (by omega)).trans (decide_eq_true (by omega)).symm
  · rename_i h
    split
    · rename_i h0; exact (decide_eq_true (by omega)).trans (decide_eq_true (by omega)).symm
    · rename_i h0; exact (decide_eq_false (by omega)).trans (decide_eq_false (by omega)).symm
def nrZ : Nr := ⟨⟨0, 0, 0⟩, 0, .slice none 0 0⟩
theorem bldN0 : ∀ w, (Instr.build 31 [].toArray).run Try.prog w = .ok (.agg (Nr.l nrZ).toArray) w := fun w => by kernel_rfl
/-- The nearest point of a simplex's plane. -/
def nrOf (T : List Pt) : Nr := nrSum (nI T) (dI T)
/-- Is it within, and nothing of l past it? -/
def nearB (l T : List Pt) : Bool := (wI T).all (fun x => decide (0 < x)) && l.all fun p => !pastB (nrOf T).n (nrOf T).d p
theorem wI_bd {T : List Pt} (hok : okPts T) (h1 : 1 ≤ T.length) (h4 : T.length ≤ 4) : ∀ x ∈ wI T, -W190 ≤ x ∧ x ≤ W190 := by
  obtain ⟨n, hn⟩ : ∃ n : Int, n = T.length - 1 := ⟨_, rfl⟩
  have hgb := gI_bd hok hn
  have hm := fun wi => minorI_bd (wi := wi) (n := n) (by omega) (by omega) hgb
  have hd : -K183 ≤ dI T ∧ dI T ≤ K183 := by have := hm (-1); rw [hn] at this; exact this
  have hmk : ∀ k, -K183 ≤ mk T k ∧ mk T k ≤ K183 := fun k => by have := hm k; rw [hn] at this; exact this
  have c : 4 * K183 ≤ W190 := by decide
  have k0 : 0 ≤ K183 := by decide
  have hms : ∀ x ∈ ms T n.toNat, -K183 ≤ x ∧ x ≤ K183 := fun x hx => by obtain ⟨i, _, rfl⟩ := ms_mem hx; exact hmk i
  have htb := tot_bd hms
  rw [ms_len] at htb
  have hj3 : (n.toNat : Int) * K183 ≤ 3 * K183 := Int.mul_le_mul_of_nonneg_right (by omega) (by decide)
  intro x hx
  rw [wI_ms T h1 hn] at hx
  rcases List.mem_cons.1 hx with rfl | hx
  · omega
  · have := hms x hx; omega
theorem dI_bd {T : List Pt} (hok : okPts T) (h1 : 1 ≤ T.length) (h4 : T.length ≤ 4) : dI T ≤ K183 := (minorI_bd (wi := -1) (n := T.length - 1) (by omega) (by omega) (gI_bd hok rfl)).2
theorem comb_bd {T : List Pt} (hok : okPts T) : ∀ {u : List Int}, (∀ x ∈ u, -W190 ≤ x ∧ x ≤ W190) → u.length = T.length → (comb u T).In (T.length * W218) := by
  induction T with
  | nil => intro u hu hl; cases u with
    | nil => unfold Sp.In comb; simp
    | cons x u => simp at hl
  | cons q T ih =>
    intro u hu hl
    cases u with
    | nil => simp at hl
    | cons x u =>
      have h := ih (fun p hp => hok p (by simp [hp])) (u := u) (fun y hy => hu y (by simp [hy])) (by simpa using hl)
      have := addW_bd h (hu x (by simp)) (hok q (by simp))
      simpa [comb] using this
theorem nI_bd {T : List Pt} (hok : okPts T) (h1 : 1 ≤ T.length) (h4 : T.length ≤ 4) : (nI T).In Mid := by
  have := comb_bd hok (wI_bd hok h1 h4) (wI_len (nz_of_len h1))
  have e : (T.length : Int) * W218 ≤ 4 * W218 := Int.mul_le_mul_of_nonneg_right (by omega) (by decide)
  exact this.mono (Int.le_trans e (by decide))
theorem div_bd {a g K : Int} (h : -K ≤ a ∧ a ≤ K) (hg : 1 ≤ g) : -K ≤ a / g ∧ a / g ≤ K := by
  have hk : 0 ≤ K := by omega
  constructor
  · refine Int.le_ediv_of_mul_le (by omega) ?_
    have := Int.mul_nonneg hk (show 0 ≤ g - 1 by omega)
    rw [Int.mul_sub, Int.mul_one] at this
    rw [Int.neg_mul]; omega
  · have := Int.ediv_le_ediv (c := g) (by omega) h.2
    have h2 := Int.ediv_le_self g hk
    omega
theorem nrOf_bd {T : List Pt} (hok : okPts T) (h1 : 1 ≤ T.length) (h4 : T.length ≤ 4) (hd : 1 ≤ dI T) : (nrOf T).n.In Mid ∧ 1 ≤ (nrOf T).d ∧ (nrOf T).d ≤ Mid := by
  have hn := nI_bd hok h1 h4
  have g1 := gcdC_pos hd (nI T) 3
  have g2 := gcdC_le hd (nI T) 3
  have hdb := dI_bd hok h1 h4
  have c : K183 ≤ Mid := by decide
  refine ⟨⟨div_bd hn.1 g1, div_bd hn.2.1 g1, div_bd hn.2.2 g1⟩, ?_, ?_⟩
  · exact Int.le_ediv_of_mul_le (by omega) (by omega)
  · have := (div_bd (a := dI T) (K := Mid) (g := gcdC (dI T) (nI T) 3) (by omega) g1).2
    exact this
theorem wall_take {u : List Int} {j : Nat} {x : Int} (hx : u[j]? = some x) (h : ∀ y ∈ u.take j, 0 < y) (hp : 0 < x) : ∀ y ∈ u.take (j + 1), 0 < y := by
  intro y hy
  rw [List.take_add_one, hx] at hy
  rcases List.mem_append.1 hy with h1 | h1
  · exact h y h1
  · simp at h1; omega
theorem pall_take {l : List Pt} {P : Pt → Prop} {j : Nat} {x : Pt} (hx : l[j]? = some x) (h : ∀ y ∈ l.take j, P y) (hp : P x) : ∀ y ∈ l.take (j + 1), P y := by
  intro y hy
  rw [List.take_add_one, hx] at hy
  rcases List.mem_append.1 hy with h1 | h1
  · exact h y h1
  · simp at h1; rw [h1]; exact hp
theorem nearB_neg {l T : List Pt} {x : Int} (hx : x ∈ wI T) (h : ¬ 0 < x) : nearB l T = false := by
  unfold nearB
  rw [show (wI T).all (fun x => decide (0 < x)) = false from List.all_eq_false.2 ⟨x, hx, by simpa using h⟩]
  rfl
theorem nearB_past {l T : List Pt} {p : Pt} (hp : p ∈ l) (h : pastB (nrOf T).n (nrOf T).d p = true) : nearB l T = false := by
  unfold nearB
  rw [show l.all (fun p => !pastB (nrOf T).n (nrOf T).d p) = false from List.all_eq_false.2 ⟨p, hp, by simp [h]⟩, Bool.and_false]
theorem nearB_of {l T : List Pt} (h1 : ∀ x ∈ wI T, 0 < x) (h2 : ∀ p ∈ l, pastB (nrOf T).n (nrOf T).d p = false) : nearB l T = true := by
  unfold nearB
  rw [Bool.and_eq_true]
  exact ⟨List.all_eq_true.2 fun x hx => decide_eq_true (h1 x hx), List.all_eq_true.2 fun p hp => by simp [h2 p hp]⟩

set_option maxHeartbeats 4000000 in
theorem simplex_nearest {l T : List Pt} {v u : Value} (w : World) (hv : PtsAt w v l) (hu : PtsAt w u T) (hl : okPts l) (hll : l.length ≤ 1000000) (hok : okPts T) (h1 : 1 ≤ T.length) (h4 : T.length ≤ 4) (hd : 1 ≤ dI T) :
    Calls Try.prog 26 #[v, u] w fun e w' => e = .returned (.tuple #[.agg (Nr.l (if nearB l T then nrOf T else nrZ)).toArray, .bool (nearB l T)]) ∧ Below w.heap.size w w' := by
  have hv0 := hv
  have hu0 := hu
  obtain ⟨a, c, rfl, hs⟩ := hv
  obtain ⟨a', c', rfl, hs'⟩ := hu
  rw [List.length_map] at hv0 ⊢
  rw [List.length_map] at hu0 ⊢
  have hdb := dI_bd hok h1 h4
  have hwb := wI_bd hok h1 h4
  have hnr := nrOf_bd hok h1 h4 hd
  have hwl := wI_len (nz_of_len h1)
  obtain ⟨n1, hn1⟩ : ∃ n1, wI T = n1 := ⟨_, rfl⟩
  refine calls_of Try.func26 rfl Try.ntmps26 rfl (St.start w) (args := [.slice a l.length c, .slice a' T.length c']) ?_
  refine cw_sr ?_
  refine steps_s (s_allocA 4 rfl zer31 fun b4 => ?_)  -- simplex.go:194
  refine steps_q rfl (q_assign rfl) ?_  -- simplex.go:194
  refine steps_nil ?_
  refine cw_sr ?_
  refine steps_q rfl (q_move rfl) ?_  -- simplex.go:195
  refine steps_s (s_callSt ent44 rfl rfl rfl (R := WR T) (fun w' hw => simplex_weights w' (SlAt.st hu0 hw) hok h1 h4) fun v Ln hZ => ?_)  -- simplex.go:195
  obtain ⟨g, cur, cap, rfl, rfl, hsv⟩ := hZ
  rw [hn1] at hsv hwb hwl ⊢
  refine steps_q rfl (q_move rfl) ?_  -- simplex.go:195
  refine steps_q rfl (q_extract rfl rfl) ?_  -- simplex.go:195
  refine steps_q rfl (q_extract rfl rfl) ?_  -- simplex.go:195
  refine steps_s (s_allocA 7 rfl zer26 fun b7 => ?_)  -- simplex.go:195
  refine steps_q rfl (q_assign rfl) ?_  -- simplex.go:195
  refine steps_s (s_storeW 7 siz26 rfl rfl rfl rfl rfl rfl ?_)  -- simplex.go:195
  refine steps_nil ?_
  refine cw_seq ?_
  refine cw_sr ?_
  refine steps_q rfl (q_move rfl) ?_  -- simplex.go:196
  refine steps_q rfl (q_lenSl Try.underlying90 rfl) ?_  -- simplex.go:196
  refine steps_q rfl (q_move rfl) ?_  -- simplex.go:196
  refine steps_nil ?_
  refine cw_block ?_
  -- LOOP 1 writes [9, 20, 21, 22, 23, 24, 25, 26, 27, 28]  stores via [4, 9]  reads [4, 18, 19]
  refine cw_loop (S := Nat) (fun j => [(0, .slice a l.length c), (1, .slice a' T.length c'), (4, .pointer (some ⟨b4, 0, none⟩)), (6, .slice (some ⟨g, 0, none⟩) n1.length cap), (7, .pointer (some ⟨b7, 0, none⟩)), (18, .slice (some ⟨g, 0, none⟩) n1.length cap), (19, .int .i64 n1.length), (20, .int .i64 j)]) (fun _ => [(4, (b4, .cells (Nr.l nrZ).toArray 31 (0, 0))), (7, (b7, .cells (Wl (dI T)).toArray 26 (0, 0))), (61, (g, .cells cur.toArray 26 (0, 0)))]) (fun j => j ≤ n1.length ∧ ∀ x ∈ n1.take j, 0 < x) (fun j => n1.length - j) 0 ⟨by omega, by simp⟩ (subs ⟨rfl, rfl, rfl, rfl, rfl, rfl, rfl, rfl, trivial⟩) (subs ⟨rfl, rfl, rfl, trivial⟩) ?_
  intro j ⟨j1, hpos⟩
  refine cw_sr ?_
  refine steps_q rfl (q_bin rfl rfl rfl) ?_  -- simplex.go:196
  refine steps_nil ?_
  refine cw_seq ?_
  refine cw_cond _ rfl (fun hc1 => ?_) (fun hc1 => ?_)
  · -- yes 1
    have hj : (j : Int) < (n1.length : Int) := of_decide_eq_true hc1
    obtain ⟨x, hx⟩ : ∃ x, n1[j]? = some x := ⟨n1[j]'(by omega), List.getElem?_eq_getElem (by omega)⟩
    have hxm := List.mem_of_getElem? hx
    have hxl : (n1.map Wl)[(j : Int).toNat]? = some (Wl x) := by rw [Int.toNat_natCast, List.getElem?_map, hx]; rfl
    have fx : Fits x := fits_big (by have := hwb x hxm; unfold W190 at this; unfold Big; omega)
    refine cw_skip ?_
    refine at_then ?_
    refine cw_seq ?_
    refine cw_block ?_
    refine cw_sr ?_
    refine steps_q rfl (q_indexSl slc90 rfl rfl (by omega) (by omega)) ?_  -- simplex.go:196
    refine steps_q rfl (q_loadA 61 agg26 rfl rfl (SV.part hsv hxl)) ?_  -- simplex.go:196
    refine steps_s (s_allocA 9 rfl zer26 fun b9 => ?_)  -- simplex.go:196
    refine steps_s (s_storeW 9 siz26 rfl rfl rfl rfl rfl rfl ?_)  -- simplex.go:196
    refine steps_nil ?_
    refine cw_sr ?_
    refine steps_q rfl (q_loadW 9 agg26 rfl rfl rfl) ?_  -- simplex.go:197
    refine steps_q rfl (q_pure ent28 rfl (wide_Sign _ fx)) ?_  -- simplex.go:197
    refine steps_q rfl (q_bin rfl rfl (sgn_leq x)) ?_  -- simplex.go:197
    refine steps_nil ?_
    refine cw_cond _ rfl (fun hc2 => ?_) (fun hc2 => ?_)
    · -- yes 2
      have hx0 : x ≤ 0 := of_decide_eq_true hc2
      have hB : nearB l T = false := nearB_neg (by rw [hn1]; exact hxm) (by omega)
      rw [hB]
      refine cw_sr ?_
      refine steps_q rfl (q_build (vs := []) rfl rfl bldN0) ?_  -- simplex.go:198
      refine steps_s (s_storeW 4 siz31 rfl rfl rfl rfl rfl rfl ?_)  -- simplex.go:198
      refine steps_q rfl (q_assign rfl) ?_  -- simplex.go:198
      refine steps_nil ?_
      refine cw_ret ?_
      exact ret_pure rfl (rv_agg 4 agg31 rfl rfl rfl (rv_tmp rfl rv_nil)) rfl
    · -- no 2
      have hx0 : ¬ x ≤ 0 := of_decide_eq_false hc2
      refine cw_skip ?_
      refine at_then ?_
      refine cw_region ?_
      refine steps_q rfl (q_bin rfl rfl (add64 (by omega) (by omega))) ?_  -- simplex.go:196
      refine steps_q rfl (q_move rfl) ?_  -- simplex.go:196
      refine steps_nil ?_
      exact at_round (j + 1) ⟨by omega, wall_take hx hpos (by omega)⟩ (by omega) (subs ⟨rfl, rfl, rfl, rfl, rfl, rfl, rfl, rfl, trivial⟩) (subs ⟨rfl, rfl, rfl, trivial⟩)
  · -- no 1
    have hj : ¬ (j : Int) < (n1.length : Int) := of_decide_eq_false hc1
    have hall : ∀ x ∈ wI T, 0 < x := by rw [hn1]; rwa [List.take_of_length_le (by omega)] at hpos
    refine cw_exit ?_
    refine at_then ?_
    refine cw_sr ?_
    refine steps_q rfl (q_move rfl) ?_  -- simplex.go:201
    refine steps_q rfl (q_move rfl) ?_  -- simplex.go:201
    refine steps_q rfl (q_loadW 7 agg26 rfl rfl rfl) ?_  -- simplex.go:201
    refine steps_q rfl (q_call ent45 rfl rfl (fun w' hw => by have := simplex_sum w' (SlAt.st hu0 hw) (SlAt.own (q := some (g, cur, cap)) (i := 61) (e := 26) hw (subs ⟨rfl, trivial⟩) hsv) (by omega) h4 hok hwb hd (Int.le_trans hdb (by decide)); rw [List.length_map] at this; simpa using this)) ?_  -- simplex.go:201
    rw [sumR0, ← hn1, show comb (wI T) T = nI T from rfl, show nrSum (nI T) (dI T) = nrOf T from rfl]
    refine steps_s (s_allocA 10 rfl zer31 fun b10 => ?_)  -- simplex.go:201
    refine steps_s (s_storeW 10 siz31 rfl rfl rfl rfl rfl rfl ?_)  -- simplex.go:201
    refine steps_nil ?_
    refine cw_seq ?_
    refine cw_sr ?_
    refine steps_q rfl (q_move rfl) ?_  -- simplex.go:202
    refine steps_q rfl (q_lenSl Try.underlying22 rfl) ?_  -- simplex.go:202
    refine steps_q rfl (q_move rfl) ?_  -- simplex.go:202
    refine steps_nil ?_
    refine cw_block ?_
    -- LOOP 2 writes [12, 35, 36, 37, 38, 39, 40, 41, 42, 43]  stores via [4, 12]  reads [4, 10, 33, 34]
    refine cw_loop (S := Nat) (fun j => [(4, .pointer (some ⟨b4, 0, none⟩)), (10, .pointer (some ⟨b10, 0, none⟩)), (33, .slice a l.length c), (34, .int .i64 l.length), (35, .int .i64 j)]) (fun _ => [(4, (b4, .cells (Nr.l nrZ).toArray 31 (0, 0))), (10, (b10, .cells (Nr.l (nrOf T)).toArray 31 (0, 0)))]) (fun j => j ≤ l.length ∧ ∀ p ∈ l.take j, pastB (nrOf T).n (nrOf T).d p = false) (fun j => l.length - j) 0 ⟨by omega, by simp⟩ (subs ⟨rfl, rfl, rfl, rfl, rfl, trivial⟩) (subs ⟨rfl, rfl, trivial⟩) ?_
    intro j ⟨j1, hpast⟩
    refine cw_sr ?_
    refine steps_q rfl (q_bin rfl rfl rfl) ?_  -- simplex.go:202
    refine steps_nil ?_
    refine cw_seq ?_
    refine cw_cond _ rfl (fun hc3 => ?_) (fun hc3 => ?_)
    · -- yes 3
      have hj : (j : Int) < (l.length : Int) := of_decide_eq_true hc3
      obtain ⟨p, hp⟩ : ∃ p, l[j]? = some p := ⟨l[j]'(by omega), List.getElem?_eq_getElem (by omega)⟩
      have hpl : (l.map Pt.l)[(j : Int).toNat]? = some p.l := by rw [Int.toNat_natCast, List.getElem?_map, hp]; rfl
      have hpm := List.mem_of_getElem? hp
      obtain ⟨bl, off, l0, fz, rfl, hb, hpt⟩ := hs.resolve_left (by intro h; rw [h] at hpl; simp at hpl)
      refine cw_skip ?_
      refine at_then ?_
      refine cw_seq ?_
      refine cw_block ?_
      refine cw_sr ?_
      refine steps_q rfl (q_indexSl slc22 rfl rfl (by omega) hj) ?_  -- simplex.go:202
      refine steps_q rfl (q_loadAo agg38 rfl hb (by simp) (hpt _ _ hpl)) ?_  -- simplex.go:202
      refine steps_s (s_allocA 12 rfl zer38 fun b12 => ?_)  -- simplex.go:202
      refine steps_s (s_storeW 12 siz38 rfl rfl rfl rfl rfl rfl ?_)  -- simplex.go:202
      refine steps_nil ?_
      refine cw_sr ?_
      refine steps_q rfl (q_loadW 10 agg31 rfl rfl rfl) ?_  -- simplex.go:203
      refine steps_q rfl (q_loadW 12 agg38 rfl rfl rfl) ?_  -- simplex.go:203
      refine steps_q rfl (q_pure ent10 rfl (simplex_Past hnr.1 (by have := hnr.2; omega) ((hl p hpm).mono (by decide)))) ?_  -- simplex.go:203
      refine steps_nil ?_
      refine cw_cond _ rfl (fun hc4 => ?_) (fun hc4 => ?_)
      · -- yes 4
        have hB : nearB l T = false := nearB_past hpm hc4
        rw [hB]
        refine cw_sr ?_
        refine steps_q rfl (q_build (vs := []) rfl rfl bldN0) ?_  -- simplex.go:204
        refine steps_s (s_storeW 4 siz31 rfl rfl rfl rfl rfl rfl ?_)  -- simplex.go:204
        refine steps_q rfl (q_assign rfl) ?_  -- simplex.go:204
        refine steps_nil ?_
        refine cw_ret ?_
        exact ret_pure rfl (rv_agg 4 agg31 rfl rfl rfl (rv_tmp rfl rv_nil)) rfl
      · -- no 4
        refine cw_skip ?_
        refine at_then ?_
        refine cw_region ?_
        refine steps_q rfl (q_bin rfl rfl (add64 (by omega) (by omega))) ?_  -- simplex.go:202
        refine steps_q rfl (q_move rfl) ?_  -- simplex.go:202
        refine steps_nil ?_
        exact at_round (j + 1) ⟨by omega, pall_take hp hpast hc4⟩ (by omega) (subs ⟨rfl, rfl, rfl, rfl, rfl, trivial⟩) (subs ⟨rfl, rfl, trivial⟩)
    · -- no 3
      have hj : ¬ (j : Int) < (l.length : Int) := of_decide_eq_false hc3
      have hB : nearB l T = true := nearB_of hall (by rwa [List.take_of_length_le (by omega)] at hpast)
      rw [hB]
      refine cw_exit ?_
      refine at_then ?_
      refine cw_sr ?_
      refine steps_q rfl (q_loadW 10 agg31 rfl rfl rfl) ?_  -- simplex.go:207
      refine steps_s (s_storeW 4 siz31 rfl rfl rfl rfl rfl rfl ?_)  -- simplex.go:207
      refine steps_q rfl (q_assign rfl) ?_  -- simplex.go:207
      refine steps_nil ?_
      refine cw_ret ?_
      exact ret_pure rfl (rv_agg 4 agg31 rfl rfl rfl (rv_tmp rfl rv_nil)) rfl
end Go.Proofs.Ytomdahjakkifbaa

/-
  That a choice is found: the nearest point of at most four points.
-/
namespace Go.Proofs.Ytomdahjakkifbaa
open Go Go.NP Go.RowKit Go.Proofs
set_option maxRecDepth 100000

/-! ## Made small -/
theorem gcdC_dvd (d : Int) (s : Sp) : gcdC d s 3 ∣ d ∧ gcdC d s 3 ∣ s.x ∧ gcdC d s 3 ∣ s.y ∧ gcdC d s 3 ∣ s.z := by
  have e1 : gcdC d s 1 = (Int.gcd d s.x : Int) := rfl
  have e2 : gcdC d s 2 = (Int.gcd (gcdC d s 1) s.y : Int) := rfl
  have e3 : gcdC d s 3 = (Int.gcd (gcdC d s 2) s.z : Int) := rfl
  have h3 : gcdC d s 3 ∣ gcdC d s 2 := by rw [e3]; exact Int.gcd_dvd_left _ _
  have h2 : gcdC d s 2 ∣ gcdC d s 1 := by rw [e2]; exact Int.gcd_dvd_left _ _
  have h1 : gcdC d s 1 ∣ d := by rw [e1]; exact Int.gcd_dvd_left _ _
  refine ⟨Int.dvd_trans h3 (Int.dvd_trans h2 h1), Int.dvd_trans h3 (Int.dvd_trans h2 ?_), Int.dvd_trans h3 ?_, ?_⟩
  · rw [e1]; exact Int.gcd_dvd_right _ _
  · rw [e2]; exact Int.gcd_dvd_right _ _
  · rw [e3]; exact Int.gcd_dvd_right _ _
theorem cross_div {g a d : Int} (hd : g ∣ d) (ha : g ∣ a) : d / g * a = d * (a / g) := by
  rw [← Int.mul_ediv_assoc d ha, Int.mul_comm (d / g), ← Int.mul_ediv_assoc a hd, Int.mul_comm]
theorem nrSum_same (N : Sp) (d : Int) : SameN N d (nrSum N d).n (nrSum N d).d := by
  obtain ⟨h0, h1, h2, h3⟩ := gcdC_dvd d N
  exact ⟨cross_div h0 h1, cross_div h0 h2, cross_div h0 h3⟩
theorem nrSum_pos {N : Sp} {d : Int} (hd : 1 ≤ d) : 1 ≤ (nrSum N d).d := by
  have g1 := gcdC_pos hd N 3
  have g2 := gcdC_le hd N 3
  exact Int.le_ediv_of_mul_le (by omega) (by omega)
theorem gcdC_scale {k : Int} (hk : 0 ≤ k) (d : Int) (s : Sp) : gcdC (k * d) ⟨k * s.x, k * s.y, k * s.z⟩ 3 = k * gcdC d s 3 := by
  have e : ∀ a b : Int, (Int.gcd (k * a) (k * b) : Int) = k * Int.gcd a b := fun a b => by
    rw [Int.gcd_mul_left, Int.natCast_mul, Int.natAbs_of_nonneg hk]
  show (Int.gcd (Int.gcd (Int.gcd (k * d) (k * s.x)) (k * s.y) : Int) (k * s.z) : Int) = k * (Int.gcd (Int.gcd (Int.gcd d s.x) s.y : Int) s.z : Int)
  rw [e, e, e]
theorem nrSum_scale {k : Int} (hk : 0 < k) {d : Int} (hd : 1 ≤ d) (s : Sp) : nrSum ⟨k * s.x, k * s.y, k * s.z⟩ (k * d) = nrSum s d := by
  have g1 := gcdC_pos hd s 3
  simp only [nrSum, gcdC_scale (Int.le_of_lt hk), Int.mul_ediv_mul_of_pos _ _ hk]
/-- The same point, made small, is the same. -/
theorem nrSum_eq {N M : Sp} {d e : Int} (h : SameN N d M e) (hd : 1 ≤ d) (he : 1 ≤ e) : nrSum N d = nrSum M e := by
  obtain ⟨h1, h2, h3⟩ := h
  rw [← nrSum_scale (k := e) (by omega) hd N, ← nrSum_scale (k := d) (by omega) he M, h1, h2, h3, Int.mul_comm e d]

/-! ## Found -/
def sel (ps : List Pt) (c : List Int) : List Pt := c.map (ptI ps)
def testB (ps : List Pt) (c : List Int) : Bool := decide (rankI (sel ps c) = (sel ps c).length - 1) && nearB ps (sel ps c)
theorem choices1 : choicesI 1 = [[0]] := by kernel_rfl
theorem choices2 : choicesI 2 = [[0], [1], [0, 1]] := by kernel_rfl
theorem choices3 : choicesI 3 = [[0], [1], [2], [0, 1], [0, 2], [1, 2], [0, 1, 2]] := by kernel_rfl
theorem choices4 : choicesI 4 = [[0], [1], [2], [3], [0, 1], [0, 2], [0, 3], [1, 2], [1, 3], [2, 3], [0, 1, 2], [0, 1, 3], [0, 2, 3], [1, 2, 3], [0, 1, 2, 3]] := by kernel_rfl
theorem choice_of {l S : List Pt} (h1 : 1 ≤ S.length) (h4 : l.length ≤ 4) (h : S.Sublist l) : ∃ c, c ∈ choicesI l.length ∧ sel l c = S := by
  match l, h4, h with
  | [], _, h => rw [List.sublist_nil.1 h] at h1; simp at h1
  | [a], _, h =>
    show ∃ c, c ∈ choicesI 1 ∧ _
    rw [choices1]
    simp only [List.sublist_cons_iff, List.sublist_nil] at h
    rcases h with rfl | ⟨r, rfl, rfl⟩
    · simp at h1
    · exact ⟨[0], by simp, rfl⟩
  | [a, b], _, h =>
    show ∃ c, c ∈ choicesI 2 ∧ _
    rw [choices2]
    simp only [List.sublist_cons_iff, List.sublist_nil] at h
    rcases h with (rfl | ⟨r, rfl, rfl⟩) | ⟨r, rfl, (rfl | ⟨r, rfl, rfl⟩)⟩
    · simp at h1
    all_goals first
      | exact ⟨[0], by simp, rfl⟩ | exact ⟨[1], by simp, rfl⟩ | exact ⟨[0, 1], by simp, rfl⟩
  | [a, b, c], _, h =>
    show ∃ c, c ∈ choicesI 3 ∧ _
    rw [choices3]
    simp only [List.sublist_cons_iff, List.sublist_nil] at h
    rcases h with ((rfl | ⟨r, rfl, rfl⟩) | ⟨r, rfl, (rfl | ⟨r, rfl, rfl⟩)⟩) | ⟨r, rfl, ((rfl | ⟨r, rfl, rfl⟩) | ⟨r, rfl, (rfl | ⟨r, rfl, rfl⟩)⟩)⟩
    · simp at h1
    all_goals first
      | exact ⟨[0], by simp, rfl⟩ | exact ⟨[1], by simp, rfl⟩ | exact ⟨[2], by simp, rfl⟩ | exact ⟨[0, 1], by simp, rfl⟩ | exact ⟨[0, 2], by simp, rfl⟩ | exact ⟨[1, 2], by simp, rfl⟩ | exact ⟨[0, 1, 2], by simp, rfl⟩
  | [a, b, c, d], _, h =>
    show ∃ c, c ∈ choicesI 4 ∧ _
    rw [choices4]
    simp only [List.sublist_cons_iff, List.sublist_nil] at h
    rcases h with (((rfl | ⟨r, rfl, rfl⟩) | ⟨r, rfl, (rfl | ⟨r, rfl, rfl⟩)⟩) | ⟨r, rfl, ((rfl | ⟨r, rfl, rfl⟩) | ⟨r, rfl, (rfl | ⟨r, rfl, rfl⟩)⟩)⟩) | ⟨r, rfl, (((rfl | ⟨r, rfl, rfl⟩) | ⟨r, rfl, (rfl | ⟨r, rfl, rfl⟩)⟩) | ⟨r, rfl, ((rfl | ⟨r, rfl, rfl⟩) | ⟨r, rfl, (rfl | ⟨r, rfl, rfl⟩)⟩)⟩)⟩
    · simp at h1
    all_goals first
      | exact ⟨[0], by simp, rfl⟩ | exact ⟨[1], by simp, rfl⟩ | exact ⟨[2], by simp, rfl⟩ | exact ⟨[3], by simp, rfl⟩ | exact ⟨[0, 1], by simp, rfl⟩ | exact ⟨[0, 2], by simp, rfl⟩ | exact ⟨[0, 3], by simp, rfl⟩ | exact ⟨[1, 2], by simp, rfl⟩ | exact ⟨[1, 3], by simp, rfl⟩ | exact ⟨[2, 3], by simp, rfl⟩ | exact ⟨[0, 1, 2], by simp, rfl⟩ | exact ⟨[0, 1, 3], by simp, rfl⟩ | exact ⟨[0, 2, 3], by simp, rfl⟩ | exact ⟨[1, 2, 3], by simp, rfl⟩ | exact ⟨[0, 1, 2, 3], by simp, rfl⟩
theorem past_iff {l : List Pt} {N : Sp} {d : Int} (hd : 1 ≤ d) : (∀ p ∈ l, pastB (nrSum N d).n (nrSum N d).d p = false) ↔ Ahead l N d := by
  have hs := nrSum_same N d
  have hp := nrSum_pos (N := N) hd
  have e : ∀ p, pastB (nrSum N d).n (nrSum N d).d p = false ↔ sqS N ≤ dotS N p * d := fun p => by
    rw [hs.past (by omega) (by omega)]
    simp only [pastB, decide_eq_false_iff_not]
    omega
  exact ⟨fun h p hp => (e p).1 (h p hp), fun h p hp => (e p).2 (h p hp)⟩
/-- What a choice that passes is. -/
theorem testB_iff {ps : List Pt} {c : List Int} (h1 : 1 ≤ c.length) (h4 : c.length ≤ 4) : testB ps c = true ↔ Good (sel ps c) ∧ Ahead ps (nI (sel ps c)) (dI (sel ps c)) := by
  have l1 : 1 ≤ (sel ps c).length := by simpa [sel] using h1
  have l4 : (sel ps c).length ≤ 4 := by simpa [sel] using h4
  simp only [testB, nearB, Bool.and_eq_true, decide_eq_true_eq, List.all_eq_true, Bool.not_eq_true']
  rw [rank_full l1 l4]
  constructor
  · rintro ⟨hd, hw, hp⟩
    have ha := AI_of l1 l4 hd
    have hd1 := ha.pos l1 l4
    exact ⟨⟨l1, l4, ha, hw⟩, (past_iff (by omega)).1 hp⟩
  · rintro ⟨hg, ha⟩
    have hd := hg.dpos
    exact ⟨by omega, hg.pos, (past_iff (by omega)).2 ha⟩
theorem choice_len {n : Int} (hn : N4 n) {c : List Int} (hc : c ∈ choicesI n) : 1 ≤ c.length ∧ c.length ≤ 4 ∧ (∀ k ∈ c, 0 ≤ k ∧ k < n) ∧ c.Pairwise (· < ·) := by
  have key : ∀ (L : List (List Int)), L.all (fun c => decide (1 ≤ c.length ∧ c.length ≤ 4 ∧ (∀ k ∈ c, 0 ≤ k ∧ k < n) ∧ c.Pairwise (· < ·))) = true → c ∈ L → _ := fun L h hc => of_decide_eq_true (List.all_eq_true.1 h c hc)
  rcases hn with rfl | rfl | rfl | rfl
  · exact key _ (by rw [choices1]; decide) hc
  · exact key _ (by rw [choices2]; decide) hc
  · exact key _ (by rw [choices3]; decide) hc
  · exact key _ (by rw [choices4]; decide) hc
theorem near_found {ps : List Pt} (h1 : 1 ≤ ps.length) (h4 : ps.length ≤ 4) : ∃ c, c ∈ choicesI ps.length ∧ testB ps c = true := by
  obtain ⟨S, hs, hg, ha⟩ := best_sub (nz_of_len h1)
  obtain ⟨c, hc, rfl⟩ := choice_of hg.ne h4 hs
  obtain ⟨l1, l4, _⟩ := choice_len (n4 (by omega) (by omega)) hc
  exact ⟨c, hc, (testB_iff l1 l4).2 ⟨hg, ha⟩⟩
end Go.Proofs.Ytomdahjakkifbaa

/-
  The walks of package simplex: Near.
-/
namespace Go.Proofs.Ytomdahjakkifbaa
open Go Go.NP Go.RowKit Go.Proofs
set_option maxRecDepth 100000

/-! ## A round of a range, within a function that turns nothing old -/
theorem round_gM {w W : World} {M : List Nat} {Lo Lt : HL} (hW : St w M W (Lo ++ Lt)) (ho : bigL Lo = true) (ht : okL Lt = true) {j g : Nat} {o : Obj} (hj : NP.look Lo j = some (g, o)) : g ∉ blocks Lt := fun hm => by
  obtain ⟨i, p, hi⟩ := blocks_look ht g hm
  have h1 := bigL_great ho hj
  have h2 := okL_small ht hi
  exact hW.apart j i g o g p (sub_left j _ hj) (sub_right ho ht i _ hi) (by omega) rfl
theorem round_gW {w W : World} {M : List Nat} {Lo Lt : HL} (hW : St w M W (Lo ++ Lt)) {j g : Nat} {o : Obj} (hj : NP.look Lo j = some (g, o)) : W.heap[g]? = some o := (hW.known j g o (sub_left j _ hj)).1
theorem round_ge {w W : World} {Lo Lt : HL} (hW : St w [] W (Lo ++ Lt)) (ho : bigL Lo = true) (ht : okL Lt = true) {k : Nat} (hk : k < w.heap.size) : k ∉ blocks Lt := fun hm => by
  obtain ⟨i, p, hi⟩ := blocks_look ht k hm
  rcases (hW.known i k p (sub_right ho ht i _ hi)).2 with h | h
  · omega
  · cases h
theorem round_old {w W W' : World} {Lo Lt L : HL} (hW : St w [] W (Lo ++ Lt)) (ho : bigL Lo = true) (ht : okL Lt = true) (h' : St W (blocks Lt) W' L) : Below w.heap.size w W' := by
  have hb := hW.below
  refine ⟨h'.os.trans hb.os, h'.tape.trans hb.tape, h'.output.trans hb.output, Nat.le_trans hb.size h'.size, fun k hk => ?_⟩
  rw [h'.old k (Nat.lt_of_lt_of_le hk hb.size) (round_ge hW ho ht hk)]
  exact hb.block k hk
/-- Behind a range that was left in a round: what was handed out there has a number of its own. -/
theorem ren_stop {Lo Lc A : HL} {d x : Nat × Obj} {j : Nat} (ho : bigL Lo = true) (hj : NP.look Lo j = some x) (hA : SubL A Lc) (hAs : ∀ i y, NP.look A i = some y → i < 900 ∧ i ≠ 63) : SubR (fun i => if i = 63 then j else i) ((901, d) :: (63, x) :: A) ((901, d) :: (Lo ++ Lc)) := by
  have hj1 := bigL_great ho hj
  refine ⟨fun i y hi => ?_, fun i k y z hi hk he => ?_⟩
  · show NP.look _ (if i = 63 then j else i) = _
    rw [look_cons] at hi
    split at hi
    · rename_i e; subst e; rw [if_neg (by decide), look_cons, if_pos rfl]; exact hi
    · rename_i e
      rw [look_cons] at hi
      split at hi
      · rename_i e63; subst e63; rw [if_pos rfl, look_cons, if_neg (by omega), look_append, hj]; exact hi
      · rename_i e63
        rw [if_neg (Ne.symm e63), look_cons, if_neg e, look_append]
        have h9 := (hAs i y hi).1
        cases hl : NP.look Lo i with
        | some q => have := bigL_great ho hl; omega
        | none => exact hA i y hi
  · have he : (if i = 63 then j else i) = (if k = 63 then j else k) := he
    have key : ∀ i y, NP.look ((901, d) :: (63, x) :: A) i = some y → i ≤ 901 := fun i y hi => by
      rw [look_cons] at hi
      split at hi
      · omega
      · rw [look_cons] at hi
        split at hi
        · omega
        · have := (hAs i y hi).1; omega
    have := key i y hi
    have := key k z hk
    split at he <;> split at he <;> omega
theorem sel_len (ps : List Pt) (c : List Int) : (sel ps c).length = c.length := List.length_map _
theorem sel_ok {ps : List Pt} (h : okPts ps) {c : List Int} (hc : ∀ k ∈ c, 0 ≤ k ∧ k < ps.length) : okPts (sel ps c) := fun p hp => by
  obtain ⟨k, hk, rfl⟩ := List.mem_map.1 hp
  exact ptI_in h (hc k hk).1 (hc k hk).2
theorem errPts_ok {ps : List Pt} (h : okPts ps) (hl : ps.length ≤ 256) : errPts ps = 0 := by unfold errPts; rw [if_pos h, if_pos hl]
/-- What Near hands back, of points that may be. -/
def NR (ps : List Pt) (v : Value) (Ln : HL) : Prop := ∃ c g cur cap, c ∈ choicesI ps.length ∧ testB ps c = true ∧
  v = .tuple #[.agg (Nr.l ⟨(nrOf (sel ps c)).n, (nrOf (sel ps c)).d, .slice (some ⟨g, 0, none⟩) c.length cap⟩).toArray, .int .i64 0] ∧ Ln = [(63, (g, .cells cur.toArray 3 (0, 0)))] ∧ SV.ok 1 (some (g, cur, cap)) (c.map intC)

theorem lss_t {a b : Int} (h : a < b) : binI .lss .i64 a .i64 b = some (.bool true) := by simp [binI, h]
theorem lss_f {a b : Int} (h : ¬ a < b) : binI .lss .i64 a .i64 b = some (.bool false) := by simp [binI, h]
theorem gtr_t {a b : Int} (h : a > b) : binI .gtr .i64 a .i64 b = some (.bool true) := by simp [binI, h]
theorem gtr_f {a b : Int} (h : ¬ a > b) : binI .gtr .i64 a .i64 b = some (.bool false) := by simp [binI, h]
theorem neq_t {a b : Int} (h : a ≠ b) : binI .neq .i64 a .i64 b = some (.bool true) := by simp [binI, h]
theorem neq_f {a b : Int} (h : a = b) : binI .neq .i64 a .i64 b = some (.bool false) := by simp [binI, h]
theorem simplex_Near_bad {ps : List Pt} {v : Value} (w : World) (hv : PtsAt w v ps) (hl : ps.length ≤ 1000000) (hb : ps.length < 1 ∨ 4 < ps.length ∨ errPts ps ≠ 0) :
    Calls Try.prog 12 #[v] w fun e w' => e = .returned (.tuple #[.agg (Nr.l nrZ).toArray, .int .i64 (if 1 ≤ ps.length ∧ ps.length ≤ 4 then errPts ps else 2)]) ∧ Below w.heap.size w w' := by
  have hv0 := hv
  obtain ⟨a, c, rfl, hs⟩ := hv
  rw [List.length_map] at hv0 ⊢
  by_cases h1 : 1 ≤ ps.length
  · by_cases h4 : ps.length ≤ 4
    · have he : errPts ps ≠ 0 := by omega
      rw [if_pos ⟨h1, h4⟩]
      refine calls_of Try.func12 rfl Try.ntmps12 rfl (St.start w) (args := [.slice a ps.length c]) ?_
      refine cw_sr ?_
      refine steps_s (s_box1 1 rfl rfl rfl fun b1 => ?_)  -- simplex.go:170
      refine steps_s (s_allocA 2 rfl zer31 fun b2 => ?_)  -- simplex.go:170
      refine steps_s (s_alloc1 3 rfl zer32 rfl fun b3 => ?_)  -- simplex.go:170
      refine steps_nil ?_
      refine cw_seq ?_
      refine cw_sr ?_
      refine steps_q rfl (q_load1 1 one22 rfl rfl rfl) ?_  -- simplex.go:171
      refine steps_q rfl (q_lenSl Try.underlying22 rfl) ?_  -- simplex.go:171
      refine steps_q rfl (q_bin rfl rfl (lss_f (by omega))) ?_  -- simplex.go:171
      refine steps_q rfl (q_move rfl) ?_  -- simplex.go:171
      refine steps_gq rfl rfl rfl (q_load1 1 one22 rfl rfl rfl) ?_  -- simplex.go:171
      refine steps_gq rfl rfl rfl (q_lenSl Try.underlying22 rfl) ?_  -- simplex.go:171
      refine steps_gq rfl rfl rfl (q_bin rfl rfl (gtr_f (by omega))) ?_  -- simplex.go:171
      refine steps_q rfl (q_pick_f rfl rfl) ?_  -- simplex.go:171
      refine steps_nil ?_
      refine cw_cond _ rfl (fun hc1 => ?_) (fun hc1 => ?_)
      · cases hc1
      · -- no 1
        refine cw_skip ?_
        refine at_then ?_
        refine cw_seq ?_
        refine cw_sr ?_
        refine steps_q rfl (q_load1 1 one22 rfl rfl rfl) ?_  -- simplex.go:174
        refine steps_q rfl (q_call ent11 rfl rfl (fun w' hw => by simpa using orient_Rank w' (SlAt.st hv0 hw) hl)) ?_  -- simplex.go:174
        refine steps_q rfl (q_move rfl) ?_  -- simplex.go:174
        refine steps_q rfl (q_extract rfl rfl) ?_  -- simplex.go:174
        refine steps_q rfl (q_extract rfl rfl) ?_  -- simplex.go:174
        refine steps_q rfl (q_assign rfl) ?_  -- simplex.go:174
        refine steps_q rfl (q_assign rfl) ?_  -- simplex.go:174
        refine steps_nil ?_
        refine cw_sr ?_
        refine steps_q rfl (q_move rfl) ?_  -- simplex.go:174
        refine steps_q rfl (q_bin rfl rfl (neq_t he)) ?_  -- simplex.go:174
        refine steps_nil ?_
        refine cw_cond _ rfl (fun hc2 => ?_) (fun hc2 => ?_)
        · -- yes 2
          refine cw_sr ?_
          refine steps_q rfl (q_build (vs := []) rfl rfl bldN0) ?_  -- simplex.go:175
          refine steps_q rfl (q_move rfl) ?_  -- simplex.go:175
          refine steps_s (s_storeW 2 siz31 rfl rfl rfl rfl rfl rfl ?_)  -- simplex.go:175
          refine steps_s (s_storeV 3 siz32 rfl rfl rfl rfl rfl ?_)  -- simplex.go:175
          refine steps_nil ?_
          refine cw_ret ?_
          exact ret_pure rfl (rv_agg 2 agg31 rfl rfl rfl (rv_one 3 one32 rfl rfl rfl rv_nil)) rfl
        · cases hc2
    · rw [if_neg (by omega)]
      refine calls_of Try.func12 rfl Try.ntmps12 rfl (St.start w) (args := [.slice a ps.length c]) ?_
      refine cw_sr ?_
      refine steps_s (s_box1 1 rfl rfl rfl fun b1 => ?_)  -- simplex.go:170
      refine steps_s (s_allocA 2 rfl zer31 fun b2 => ?_)  -- simplex.go:170
      refine steps_s (s_alloc1 3 rfl zer32 rfl fun b3 => ?_)  -- simplex.go:170
      refine steps_nil ?_
      refine cw_seq ?_
      refine cw_sr ?_
      refine steps_q rfl (q_load1 1 one22 rfl rfl rfl) ?_  -- simplex.go:171
      refine steps_q rfl (q_lenSl Try.underlying22 rfl) ?_  -- simplex.go:171
      refine steps_q rfl (q_bin rfl rfl (lss_f (by omega))) ?_  -- simplex.go:171
      refine steps_q rfl (q_move rfl) ?_  -- simplex.go:171
      refine steps_gq rfl rfl rfl (q_load1 1 one22 rfl rfl rfl) ?_  -- simplex.go:171
      refine steps_gq rfl rfl rfl (q_lenSl Try.underlying22 rfl) ?_  -- simplex.go:171
      refine steps_gq rfl rfl rfl (q_bin rfl rfl (gtr_t (by omega))) ?_  -- simplex.go:171
      refine steps_q rfl (q_pick_f rfl rfl) ?_  -- simplex.go:171
      refine steps_nil ?_
      refine cw_cond _ rfl (fun hc1 => ?_) (fun hc1 => ?_)
      · -- yes 1
        refine cw_sr ?_
        refine steps_q rfl (q_build (vs := []) rfl rfl bldN0) ?_  -- simplex.go:172
        refine steps_s (s_storeW 2 siz31 rfl rfl rfl rfl rfl rfl ?_)  -- simplex.go:172
        refine steps_s (s_storeV 3 siz32 rfl rfl rfl rfl rfl ?_)  -- simplex.go:172
        refine steps_nil ?_
        refine cw_ret ?_
        exact ret_pure rfl (rv_agg 2 agg31 rfl rfl rfl (rv_one 3 one32 rfl rfl rfl rv_nil)) rfl
      · cases hc1
  · rw [if_neg (by omega)]
    refine calls_of Try.func12 rfl Try.ntmps12 rfl (St.start w) (args := [.slice a ps.length c]) ?_
    refine cw_sr ?_
    refine steps_s (s_box1 1 rfl rfl rfl fun b1 => ?_)  -- simplex.go:170
    refine steps_s (s_allocA 2 rfl zer31 fun b2 => ?_)  -- simplex.go:170
    refine steps_s (s_alloc1 3 rfl zer32 rfl fun b3 => ?_)  -- simplex.go:170
    refine steps_nil ?_
    refine cw_seq ?_
    refine cw_sr ?_
    refine steps_q rfl (q_load1 1 one22 rfl rfl rfl) ?_  -- simplex.go:171
    refine steps_q rfl (q_lenSl Try.underlying22 rfl) ?_  -- simplex.go:171
    refine steps_q rfl (q_bin rfl rfl (lss_t (by omega))) ?_  -- simplex.go:171
    refine steps_q rfl (q_move rfl) ?_  -- simplex.go:171
    refine steps_gn rfl rfl rfl rfl ?_  -- simplex.go:171
    refine steps_gn rfl rfl rfl rfl ?_  -- simplex.go:171
    refine steps_gn rfl rfl rfl rfl ?_  -- simplex.go:171
    refine steps_q rfl (q_pick_t rfl rfl) ?_  -- simplex.go:171
    refine steps_nil ?_
    refine cw_cond _ rfl (fun hc1 => ?_) (fun hc1 => ?_)
    · -- yes 1
      refine cw_sr ?_
      refine steps_q rfl (q_build (vs := []) rfl rfl bldN0) ?_  -- simplex.go:172
      refine steps_s (s_storeW 2 siz31 rfl rfl rfl rfl rfl rfl ?_)  -- simplex.go:172
      refine steps_s (s_storeV 3 siz32 rfl rfl rfl rfl rfl ?_)  -- simplex.go:172
      refine steps_nil ?_
      refine cw_ret ?_
      exact ret_pure rfl (rv_agg 2 agg31 rfl rfl rfl (rv_one 3 one32 rfl rfl rfl rv_nil)) rfl
    · cases hc1

/-- What the range of Near knows between its rounds. -/
def nearL (b1 b2 b3 b4 : Nat) (v : Value) (n : Int) (m : Nr) : HL := [(1, (b1, .cells [v].toArray 22 (0, 0))), (2, (b2, .cells m.l.toArray 31 (0, 0))), (3, (b3, .cells [.int .i64 0].toArray 32 (0, 0))), (54, (b4, .cells [.int .i64 n].toArray 3 (0, 0)))]
def nearJ (ps : List Pt) (base : HL) (i : Nat) (Lc : HL) : Prop := Lc = base ∧ ∀ (j : Nat) c, j < i → (choicesI ps.length)[j]? = some c → testB ps c = false
def nearX (ps : List Pt) (base : Nr → HL) (i : Nat) (x : List Value) (code : Code) (Lc : HL) : Prop := code = .ret ∧ ∃ c g cap, (choicesI ps.length)[i]? = some c ∧ x = [.slice (some ⟨g, 0, none⟩) c.length cap] ∧ testB ps c = true ∧
  Lc = base ⟨(nrOf (sel ps c)).n, (nrOf (sel ps c)).d, .slice (some ⟨g, 0, none⟩) c.length cap⟩
theorem nearJ_next {ps : List Pt} {base : HL} {i : Nat} {c : List Int} (h : ∀ (j : Nat) c, j < i → (choicesI ps.length)[j]? = some c → testB ps c = false) (hc : (choicesI ps.length)[i]? = some c) (hf : testB ps c = false) : nearJ ps base (i + 1) base :=
  ⟨rfl, fun j d hj hd => by
    by_cases e : j = i
    · subst e; rw [hc] at hd; cases hd; exact hf
    · exact h j d (by omega) hd⟩
theorem nearJ_none {ps : List Pt} {base Lc : HL} (h1 : 1 ≤ ps.length) (h4 : ps.length ≤ 4) (h : nearJ ps base (choicesI ps.length).length Lc) : False := by
  obtain ⟨c, hc, ht⟩ := near_found h1 h4
  obtain ⟨j, hj⟩ := List.mem_iff_getElem?.1 hc
  have := h.2 j c (List.getElem?_eq_some_iff.1 hj).1 hj
  rw [ht] at this; cases this

set_option maxHeartbeats 8000000 in
theorem simplex_Near_ok {ps : List Pt} {v : Value} (w : World) (hv : PtsAt w v ps) (hok : okPts ps) (h1 : 1 ≤ ps.length) (h4 : ps.length ≤ 4) :
    Calls Try.prog 12 #[v] w fun e w' => ∃ v Ln, e = .returned v ∧ NR ps v Ln ∧ St w [] w' Ln := by
  have hv0 := hv
  obtain ⟨a, c0, rfl, hs⟩ := hv
  rw [List.length_map] at hv0 ⊢
  have p0 := ptI_get (ps := ps) (Int.le_refl 0) (by omega)
  have p0l : (ps.map Pt.l)[(0 : Int).toNat]? = some (ptI ps 0).l := by rw [List.getElem?_map, p0]; rfl
  obtain ⟨bl, off, l0, fz, rfl, hb, hpt⟩ := hs.resolve_left (by intro h; rw [h] at p0l; simp at p0l)
  have hblt : bl < w.heap.size := (Array.getElem?_eq_some_iff.1 hb).1
  have hn4 : N4 ps.length := n4 (by omega) (by omega)
  have he := errPts_ok hok (by omega)
  refine calls_ofM Try.func12 rfl Try.ntmps12 rfl (St.start w) (args := [.slice (some ⟨bl, off, none⟩) ps.length c0]) ?_
  refine cw_sr ?_
  refine steps_s (s_box1 1 rfl rfl rfl fun b1 => ?_)  -- simplex.go:170
  refine steps_s (s_allocA 2 rfl zer31 fun b2 => ?_)  -- simplex.go:170
  refine steps_s (s_alloc1 3 rfl zer32 rfl fun b3 => ?_)  -- simplex.go:170
  refine steps_nil ?_
  refine cw_seq ?_
  refine cw_sr ?_
  refine steps_q rfl (q_load1 1 one22 rfl rfl rfl) ?_  -- simplex.go:171
  refine steps_q rfl (q_lenSl Try.underlying22 rfl) ?_  -- simplex.go:171
  refine steps_q rfl (q_bin rfl rfl (lss_f (by omega))) ?_  -- simplex.go:171
  refine steps_q rfl (q_move rfl) ?_  -- simplex.go:171
  refine steps_gq rfl rfl rfl (q_load1 1 one22 rfl rfl rfl) ?_  -- simplex.go:171
  refine steps_gq rfl rfl rfl (q_lenSl Try.underlying22 rfl) ?_  -- simplex.go:171
  refine steps_gq rfl rfl rfl (q_bin rfl rfl (gtr_f (by omega))) ?_  -- simplex.go:171
  refine steps_q rfl (q_pick_f rfl rfl) ?_  -- simplex.go:171
  refine steps_nil ?_
  refine cw_cond _ rfl (fun hc1 => ?_) (fun hc1 => ?_)
  · cases hc1
  · -- no 1
    refine cw_skip ?_
    refine at_then ?_
    refine cw_seq ?_
    refine cw_sr ?_
    refine steps_q rfl (q_load1 1 one22 rfl rfl rfl) ?_  -- simplex.go:174
    refine steps_q rfl (q_call ent11 rfl rfl (fun w' hw => by simpa using orient_Rank w' (SlAt.st hv0 hw) (by omega))) ?_  -- simplex.go:174
    refine steps_q rfl (q_move rfl) ?_  -- simplex.go:174
    refine steps_q rfl (q_extract rfl rfl) ?_  -- simplex.go:174
    refine steps_q rfl (q_extract rfl rfl) ?_  -- simplex.go:174
    refine steps_q rfl (q_assign rfl) ?_  -- simplex.go:174
    refine steps_q rfl (q_assign rfl) ?_  -- simplex.go:174
    refine steps_nil ?_
    refine cw_sr ?_
    refine steps_q rfl (q_move rfl) ?_  -- simplex.go:174
    refine steps_q rfl (q_bin rfl rfl (neq_f he)) ?_  -- simplex.go:174
    refine steps_nil ?_
    refine cw_cond _ rfl (fun hc2 => ?_) (fun hc2 => ?_)
    · cases hc2
    · -- no 2
      refine cw_skip ?_
      refine at_then ?_
      refine cw_seq ?_
      refine cw_sr ?_
      refine steps_q rfl (q_load1 1 one22 rfl rfl rfl) ?_  -- simplex.go:177
      refine steps_q rfl (q_lenSl Try.underlying22 rfl) ?_  -- simplex.go:177
      refine steps_s (s_callSt ent25 rfl rfl rfl (R := fun v Ln => ∃ b, v = .func (.func 42) #[] #[.pointer (some ⟨b, 0, none⟩)] ∧ Ln = [(54, (b, .cells [.int .i64 ps.length].toArray 3 (0, 0)))]) (fun w' hw => by simpa using simplex_choices ps.length w') fun v Ln hZ => ?_)  -- simplex.go:177
      obtain ⟨b54, rfl, rfl⟩ := hZ
      refine steps_nil ?_
      refine cw_block ?_
      refine cw_rangeX (nearJ ps (nearL b1 b2 b3 b54 (.slice (some ⟨bl, off, none⟩) ps.length c0) ps.length nrZ)) (nearX ps (nearL b1 b2 b3 b54 (.slice (some ⟨bl, off, none⟩) ps.length c0) ps.length)) (nearL b1 b2 b3 b54 (.slice (some ⟨bl, off, none⟩) ps.length c0) ps.length nrZ)
        rfl ent42 (simplex_choices1 b54 hn4) (fun i x Lo hX => by obtain ⟨_, _, _, _, _, _, rfl, _⟩ := hX; rfl) rfl (fun i Lc hJ => by obtain ⟨rfl, _⟩ := hJ; rfl) (fun i Lc a b hJ => by obtain ⟨rfl, _⟩ := hJ; exact rfl) ⟨rfl, fun j c hj => by omega⟩ (subs ⟨rfl, rfl, rfl, rfl, trivial⟩) ?_ ?_ ?_
      · -- a round of 1
        intro l nD rc i x Lo Lc hi hX ho hJ W hW
        obtain ⟨rfl, hprev⟩ := hJ
        obtain ⟨c, g, cur, cap, jj, hcj, rfl, hgj, hsv⟩ := hX
        have hbk : okL (recL l nD { rc with state := .ready, pending := none } (nearL b1 b2 b3 b54 (.slice (some ⟨bl, off, none⟩) ps.length c0) ps.length nrZ)) = true := rfl
        have hgW := round_gW hW hgj
        have hgM := round_gM hW ho hbk hgj
        have hblW : W.heap[bl]? = some (.cells l0.toArray fz.1 fz.2) := (hW.below.block bl hblt).trans hb
        have hblM := round_ge hW ho hbk hblt
        have hold : ∀ {L : HL} {W' : World}, St W (blocks (recL l nD { rc with state := .ready, pending := none } (nearL b1 b2 b3 b54 (.slice (some ⟨bl, off, none⟩) ps.length c0) ps.length nrZ))) W' L → PtsAt W' (.slice (some ⟨bl, off, none⟩) ps.length c0) ps := fun h' => SlAt.below hv0 (round_old hW ho hbk h')
        obtain ⟨cl1, cl4, clk, -⟩ := choice_len hn4 (List.mem_of_getElem? hcj)
        have hsok := sel_ok hok clk
        have hse := errPts_ok hsok (by rw [sel_len]; omega)
        have hsl := sel_len ps c
        refine cw_region ?_
        refine steps_q rfl (q_assign rfl) ?_  -- simplex.go:177
        refine steps_nil ?_
        refine at_begin (i := 900) rfl rfl ?_
        refine cw_block ?_
        refine cw_sr ?_
        refine steps_q rfl (q_assign rfl) ?_  -- simplex.go:178
        refine steps_nil ?_
        refine cw_seq ?_
        refine cw_sr ?_
        refine steps_q rfl (q_move rfl) ?_  -- simplex.go:179
        refine steps_q rfl (q_lenSl Try.underlying29 rfl) ?_  -- simplex.go:179
        refine steps_q rfl (q_move rfl) ?_  -- simplex.go:179
        refine steps_nil ?_
        refine cw_block ?_
        -- LOOP 1 writes [7, 9, 38, 39, 40, 41, 42, 43, 44, 45, 46, 47, 48, 49]  stores via []  reads [1, 36, 37]
        refine cw_loop (S := Nat × SV) (fun s => [(1, .pointer (some ⟨b1, 0, none⟩)), (2, .pointer (some ⟨b2, 0, none⟩)), (3, .pointer (some ⟨b3, 0, none⟩)), (6, .slice (some ⟨g, 0, none⟩) c.length cap), (7, s.2.v s.1), (36, .slice (some ⟨g, 0, none⟩) c.length cap), (37, .int .i64 c.length), (38, .int .i64 s.1)]) (fun s => s.2.l 61 38 ++ (900, (l, .loop { rc with state := .busy, pending := none })) :: (901, (nD, .deferred (some []))) :: (nearL b1 b2 b3 b54 (.slice (some ⟨bl, off, none⟩) ps.length c0) ps.length nrZ)) (fun s => s.1 ≤ c.length ∧ s.2.ok 3 (((sel ps c).take s.1).map Pt.l)) (fun s => c.length - s.1) (0, none) ⟨by dsimp only; omega, by simp [SV.ok]⟩ (subs ⟨rfl, rfl, rfl, rfl, rfl, rfl, rfl, rfl, trivial⟩) (subs ⟨rfl, rfl, rfl, rfl, rfl, rfl, trivial⟩) ?_
        rintro ⟨k, sv⟩ ⟨k1, hsk⟩
        dsimp only at k1 hsk
        conv => enter [7]; dsimp only
        conv => enter [8]; dsimp only
        have hkl : (((sel ps c).take k).map Pt.l).length = k := by rw [List.length_map, List.length_take, hsl]; omega
        refine cw_sr ?_
        refine steps_q rfl (q_bin rfl rfl rfl) ?_  -- simplex.go:179
        refine steps_nil ?_
        refine cw_seq ?_
        refine cw_cond _ rfl (fun hc3 => ?_) (fun hc3 => ?_)
        · -- yes 3
          have hk : (k : Int) < (c.length : Int) := of_decide_eq_true hc3
          obtain ⟨m, hm⟩ : ∃ m, c[k]? = some m := ⟨c[k]'(by omega), List.getElem?_eq_getElem (by omega)⟩
          have hml : (c.map intC)[(k : Int).toNat]? = some (intC m) := by rw [Int.toNat_natCast, List.getElem?_map, hm]; rfl
          have hmb := clk m (List.mem_of_getElem? hm)
          have pm := ptI_get (ps := ps) hmb.1 hmb.2
          have pml : (ps.map Pt.l)[m.toNat]? = some (ptI ps m).l := by rw [List.getElem?_map, pm]; rfl
          have hsm : (sel ps c)[k]? = some (ptI ps m) := by rw [sel, List.getElem?_map, hm]; rfl
          have htk : ((sel ps c).take (k + 1)).map Pt.l = ((sel ps c).take k).map Pt.l ++ [(ptI ps m).l] := by rw [List.take_add_one, hsm, List.map_append]; rfl
          refine cw_skip ?_
          refine at_then ?_
          refine cw_seq ?_
          refine cw_block ?_
          refine cw_sr ?_
          refine steps_q rfl (q_indexSl slc29 rfl rfl (by omega) (by omega)) ?_  -- simplex.go:179
          refine steps_q rfl (q_load1o one3 rfl hgW hgM (part1 (SV.part hsv hml))) ?_  -- simplex.go:179
          refine steps_q rfl (q_assign rfl) ?_  -- simplex.go:179
          refine steps_nil ?_
          rcases sv with _ | ⟨g1, cur1, cap1⟩
          · -- way 12.a
            refine cw_region ?_
            refine steps_q rfl (q_move rfl) ?_  -- simplex.go:180
            refine steps_q rfl (q_load1 1 one22 rfl rfl rfl) ?_  -- simplex.go:180
            refine steps_q rfl (q_move rfl) ?_  -- simplex.go:180
            refine steps_q rfl (q_indexSl slc22 rfl rfl hmb.1 (by omega)) ?_  -- simplex.go:180
            refine steps_q rfl (q_loadAo agg38 rfl hblW hblM (hpt _ _ pml)) ?_  -- simplex.go:180
            refine steps_s (s_buildSl 47 rfl rfl rfl (bslP (ptI ps m)) fun b47 => ?_)  -- simplex.go:180
            refine steps_s (s_appendN 61 47 none k (((sel ps c).take k).map Pt.l) (ptI ps m).l hkl elt22 rfl rfl hsk (subs trivial) rfl rfl rfl rfl (by omega) (by unfold maxLen; omega) fun g1 cur1 cap1 hk1 => ?_)  -- simplex.go:180
            refine steps_q rfl (q_assign rfl) ?_  -- simplex.go:180
            refine steps_nil ?_
            refine at_then ?_
            refine cw_region ?_
            refine steps_q rfl (q_bin rfl rfl (add64 (by omega) (by omega))) ?_  -- simplex.go:179
            refine steps_q rfl (q_move rfl) ?_  -- simplex.go:179
            refine steps_nil ?_
            exact at_round (k + 1, some (g1, cur1, cap1)) ⟨by dsimp only; omega, by dsimp only; rw [htk]; exact hk1⟩ (by dsimp only; omega) (subs ⟨rfl, rfl, rfl, rfl, rfl, rfl, rfl, by dsimp only; rw [show ((k + 1 : Nat) : Int) = k + 1 by omega]; rfl, trivial⟩) (subs ⟨rfl, rfl, rfl, rfl, rfl, rfl, rfl, trivial⟩)
          · -- way 12.b
            refine cw_region ?_
            refine steps_q rfl (q_move rfl) ?_  -- simplex.go:180
            refine steps_q rfl (q_load1 1 one22 rfl rfl rfl) ?_  -- simplex.go:180
            refine steps_q rfl (q_move rfl) ?_  -- simplex.go:180
            refine steps_q rfl (q_indexSl slc22 rfl rfl hmb.1 (by omega)) ?_  -- simplex.go:180
            refine steps_q rfl (q_loadAo agg38 rfl hblW hblM (hpt _ _ pml)) ?_  -- simplex.go:180
            refine steps_s (s_buildSl 47 rfl rfl rfl (bslP (ptI ps m)) fun b47 => ?_)  -- simplex.go:180
            refine steps_s (s_appendN 61 47 (some (g1, cur1, cap1)) k (((sel ps c).take k).map Pt.l) (ptI ps m).l hkl elt22 rfl rfl hsk (subs ⟨rfl, trivial⟩) rfl rfl rfl rfl (by omega) (by unfold maxLen; omega) fun g1 cur1 cap1 hk1 => ?_)  -- simplex.go:180
            refine steps_q rfl (q_assign rfl) ?_  -- simplex.go:180
            refine steps_nil ?_
            refine at_then ?_
            refine cw_region ?_
            refine steps_q rfl (q_bin rfl rfl (add64 (by omega) (by omega))) ?_  -- simplex.go:179
            refine steps_q rfl (q_move rfl) ?_  -- simplex.go:179
            refine steps_nil ?_
            exact at_round (k + 1, some (g1, cur1, cap1)) ⟨by dsimp only; omega, by dsimp only; rw [htk]; exact hk1⟩ (by dsimp only; omega) (subs ⟨rfl, rfl, rfl, rfl, rfl, rfl, rfl, by dsimp only; rw [show ((k + 1 : Nat) : Int) = k + 1 by omega]; rfl, trivial⟩) (subs ⟨rfl, rfl, rfl, rfl, rfl, rfl, rfl, trivial⟩)
        · -- no 3
          have hk : ¬ (k : Int) < (c.length : Int) := of_decide_eq_false hc3
          have hkc : k = c.length := by omega
          subst hkc
          rw [List.take_of_length_le (by omega)] at hsk hkl
          rcases sv with _ | ⟨g1, cur1, cap1⟩
          · exfalso
            have := SV.len0 hsk
            omega
          have hsel : ∀ {L : HL} {W' : World}, St W (blocks (recL l nD { rc with state := .ready, pending := none } (nearL b1 b2 b3 b54 (.slice (some ⟨bl, off, none⟩) ps.length c0) ps.length nrZ))) W' L → NP.look L 61 = some (g1, .cells cur1.toArray 38 (0, 0)) → PtsAt W' (.slice (some ⟨g1, 0, none⟩) c.length cap1) (sel ps c) := fun h' hl => by
            have := SlAt.own (q := some (g1, cur1, cap1)) (i := 61) (e := 38) h' (subs ⟨hl, trivial⟩) hsk
            rwa [hkl] at this
          refine cw_exit ?_
          refine at_then ?_
          refine cw_seq ?_
          refine cw_sr ?_
          refine steps_q rfl (q_move rfl) ?_  -- simplex.go:182
          refine steps_q rfl (q_call ent11 rfl rfl (fun w' hw => by simpa using orient_Rank w' (hsel hw rfl) (by rw [hsl]; omega))) ?_  -- simplex.go:182
          rw [if_pos hse, hse]
          refine steps_q rfl (q_move rfl) ?_  -- simplex.go:182
          refine steps_q rfl (q_extract rfl rfl) ?_  -- simplex.go:182
          refine steps_q rfl (q_extract rfl rfl) ?_  -- simplex.go:182
          refine steps_q rfl (q_assign rfl) ?_  -- simplex.go:182
          refine steps_q rfl (q_assign rfl) ?_  -- simplex.go:182
          refine steps_nil ?_
          refine cw_sr ?_
          refine steps_q rfl (q_move rfl) ?_  -- simplex.go:182
          refine steps_q rfl (q_move rfl) ?_  -- simplex.go:182
          refine steps_q rfl (q_lenSl Try.underlying22 rfl) ?_  -- simplex.go:182
          refine steps_q rfl (q_bin rfl rfl (sub64 (by omega) (by omega))) ?_  -- simplex.go:182
          refine steps_q rfl (q_bin rfl rfl rfl) ?_  -- simplex.go:182
          refine steps_nil ?_
          refine cw_cond _ rfl (fun hc4 => ?_) (fun hc4 => ?_)
          · -- yes 4
            have hr : rankI (sel ps c) ≠ c.length - 1 := by simpa using hc4
            have hf : testB ps c = false := by unfold testB; rw [show decide (rankI (sel ps c) = (sel ps c).length - 1) = false by rw [hsl]; exact decide_eq_false hr]; rfl
            refine cw_exit ?_
            exact at_yes _ (nearJ_next hprev hcj hf) rfl (subs ⟨rfl, rfl, rfl, rfl, rfl, rfl, trivial⟩) rfl
          · -- no 4
            have hr : rankI (sel ps c) = c.length - 1 := by simpa using hc4
            have hd0 := (rank_full (T := sel ps c) (by omega) (by omega)).1 (by rw [hsl]; exact hr)
            have hd1 := dI_nn (T := sel ps c) (by omega) (by omega)
            have htest : testB ps c = nearB ps (sel ps c) := by unfold testB; rw [show decide (rankI (sel ps c) = (sel ps c).length - 1) = true by rw [hsl]; exact decide_eq_true hr]; rfl
            refine cw_skip ?_
            refine at_then ?_
            refine cw_sr ?_
            refine steps_q rfl (q_load1 1 one22 rfl rfl rfl) ?_  -- simplex.go:185
            refine steps_q rfl (q_move rfl) ?_  -- simplex.go:185
            refine steps_q rfl (q_call ent26 rfl rfl (fun w' hw => by simpa using simplex_nearest w' (hold hw) (hsel hw rfl) hok (by omega) hsok (by omega) (by omega) (by omega))) ?_  -- simplex.go:185
            refine steps_q rfl (q_move rfl) ?_  -- simplex.go:185
            refine steps_q rfl (q_extract rfl rfl) ?_  -- simplex.go:185
            refine steps_q rfl (q_extract rfl rfl) ?_  -- simplex.go:185
            refine steps_s (s_allocA 12 rfl zer31 fun b12 => ?_)  -- simplex.go:185
            refine steps_s (s_storeW 12 siz31 rfl rfl rfl rfl (by split <;> rfl) (by split <;> rfl) ?_)  -- simplex.go:185
            refine steps_q rfl (q_assign rfl) ?_  -- simplex.go:185
            refine steps_nil ?_
            refine cw_sr ?_
            refine steps_q rfl (q_move rfl) ?_  -- simplex.go:185
            refine steps_nil ?_
            refine cw_cond _ rfl (fun hc5 => ?_) (fun hc5 => ?_)
            · -- yes 5
              have hnb : nearB ps (sel ps c) = true := hc5
              rw [hnb, if_pos rfl]
              refine cw_sr ?_
              refine steps_q rfl (q_move rfl) ?_  -- simplex.go:186
              refine steps_q rfl (q_field fld31_2 rfl) ?_  -- simplex.go:186
              refine steps_s (s_store1 12 siz29 rfl rfl rfl rfl rfl (show 33 ≤ 33 from Nat.le_refl _) rfl ?_)  -- simplex.go:186
              refine steps_nil ?_
              refine cw_sr ?_
              refine steps_q rfl (q_loadW 12 agg31 rfl rfl rfl) ?_  -- simplex.go:187
              refine steps_s (s_storeW 2 siz31 rfl rfl rfl rfl rfl rfl ?_)  -- simplex.go:187
              refine steps_s (s_storeV 3 siz32 rfl rfl rfl rfl rfl ?_)  -- simplex.go:187
              refine steps_nil ?_
              refine cw_ret ?_
              exact at_no _ ⟨rfl, c, g, cap, hcj, rfl, by rw [htest, hnb], rfl⟩ rfl (subs ⟨rfl, rfl, rfl, rfl, rfl, rfl, trivial⟩) rfl
            · -- no 5
              have hnb : nearB ps (sel ps c) = false := hc5
              have hf : testB ps c = false := by rw [htest, hnb]
              refine cw_skip ?_
              exact at_yes _ (nearJ_next hprev hcj hf) rfl (subs ⟨rfl, rfl, rfl, rfl, rfl, rfl, trivial⟩) rfl
      · -- behind range 1
        intro nD Lc hJ
        exact (nearJ_none h1 h4 hJ).elim
      · -- stopped 1
        rintro nD i x Lo code Lc hX ho ⟨rfl, c, g, cap, hc, rfl, ht, rfl⟩
        obtain ⟨c', g', cur, cap', j, hc', hx, hgj, hsv⟩ := hX
        rw [hc] at hc'
        cases hc'
        simp only [List.cons.injEq, Value.slice.injEq, Option.some.injEq, Addr.mk.injEq, and_true] at hx
        obtain ⟨rfl, -, rfl⟩ := hx
        refine CW.ren _ (L' := (901, (nD, .deferred (some []))) :: (63, (g, .cells cur.toArray 3 (0, 0))) :: [(2, (b2, .cells (Nr.l ⟨(nrOf (sel ps c)).n, (nrOf (sel ps c)).d, .slice (some ⟨g, 0, none⟩) c.length cap⟩).toArray 31 (0, 0))), (3, (b3, .cells [.int .i64 0].toArray 32 (0, 0)))]) ?_ (ren_stop ho hgj (subs ⟨rfl, rfl, trivial⟩) ?_)
        · refine cw_ret ?_
          exact at_retM rfl rfl (rv_agg 2 agg31 rfl rfl rfl (rv_one 3 one32 rfl rfl rfl rv_nil)) fun w' hw => ⟨_, _, rfl, ⟨c, g, cur, cap, List.mem_of_getElem? hc, ht, rfl, rfl, hsv⟩, hw.weaken (subs ⟨rfl, trivial⟩)⟩
        · intro i y hi
          rw [look_cons] at hi
          split at hi
          · omega
          · rw [look_cons] at hi
            split at hi
            · omega
            · simp [NP.look] at hi
end Go.Proofs.Ytomdahjakkifbaa

/-
  Appending a slice that is told; a slice against nil.
-/
namespace Go.NP
open Go Go.RowKit
section
variable {P : Program} {w0 : World} {M : List Nat} {N : Nat} {D : Dfr} {T : TL} {L : HL} {Q : Exit → Act → World → Prop}

theorem run_equalIn_slnil {t e : TypeId} (hS : P.underlying t = some (.slice e)) (k : Nat) (a : Option Addr) (n c : Nat) (w : World) : (Op.equalIn (k + 1) t (.slice a n c) (.slice none 0 0)).run P w = .ok a.isNone w := by
  cases a <;> simp [Op.equalIn, run_underlying hS]
theorem run_eql_slnil {t e : TypeId} (hS : P.underlying t = some (.slice e)) (a : Option Addr) (n c : Nat) (w : World) : (Op.equal t (.slice a n c) (.slice none 0 0)).run P w = .ok a.isNone w := run_equalIn_slnil hS 9999 a n c w
theorem q_slnil {d : Option Tmp} {x : Operand} {a0 : Option Addr} {n c : Nat} {t t' t'' e : TypeId} {p : String} {af : Array Edge} {g : Option (Nat × Bool)} (hS : P.underlying t = some (.slice e)) (hx : ev T x = some (.slice a0 n c)) :
    Quiet P w0 M N D { dst := d, op := .binOp .eql t x (.const (.slice none 0 0)) t', type := t'', pos := p, after := af, guard := g } T L (.bool a0.isNone) :=
  q_run fun a w ha _ => by
    have hg : (eqGuard .eql t x (.const (.slice none 0 0)) (.slice a0 n c) (.slice none 0 0)).run P w = .ok () w := by simp [eqGuard]
    have h2 : a.eval (.const (.slice none 0 0)) = .slice none 0 0 := rfl
    have hb : (binOp .eql t (.slice a0 n c) (.slice none 0 0)).run P w = .ok (.bool a0.isNone) w := by
      show (do pure (.bool (← Op.equal t (.slice a0 n c) (.slice none 0 0))) : Sem Value).run P w = _
      rw [Sem.run_bind, run_eql_slnil hS]; rfl
    simp only [execOp, ha.ev hx, h2, Sem.run_bind, hg, hb, Result.andThen_ok, Sem.run_pure]

/-- append(s, y...): of a slice of one's own, by elements that are told. -/
theorem s_appendM (i : Nat) (s : SV) (n m : Nat) (xs ys : List (List Value)) (hn : xs.length = n) (hm : ys.length = m) {d : Nat} {a b : Operand} {t e : TypeId} {z : Value} {sz bytes : Nat} {by' off c : Nat} {t' : TypeId} {p : String} {af : Array Edge} {g : Option (Nat × Bool)} {K : TL → HL → Prop} {Q : Exit → Act → World → Prop}
    (hE : Elt P t e z sz bytes) (hN : Nat.blt d N = true) (hs : ev T a = some (s.v n)) (hok : s.ok sz xs) (hl : SubL (s.l i e) L) (hy : ev T b = some (.slice (some ⟨by', off, none⟩) m c))
    (hyl : ∀ w, St w0 M w L → ∃ (l : List Value) (fz : TypeId × Nat × Nat), w.heap[by']? = some (.cells l.toArray fz.1 fz.2) ∧ ∀ k x, ys[k]? = some x → Part l (off + k * sz) sz x) (h1 : ∀ x ∈ ys, x.all (·.oneCell') = true)
    (hlen : (n + m) * bytes ≤ 140737488355328) (hlen2 : n + m ≤ maxLen) (hpos : 0 < n + m)
    (k : ∀ g cur cap, SV.ok sz (some (g, cur, cap)) (xs ++ ys) → K ((d, .slice (some ⟨g, 0, none⟩) (n + m) cap) :: T) ((i, (g, .cells cur.toArray e (0, 0))) :: L)) :
    Step P w0 M N D { dst := some d, op := .call { callee := .builtin .append, args := #[a, b], argTypes := #[t, t] }, type := t', pos := p, after := af, guard := g } T L K Q := by
  subst hn hm
  intro ac w ha hw
  obtain ⟨hu, hi, hz, hsz⟩ := hE
  obtain ⟨inf, hinf, hpr⟩ := Option.map_eq_some_iff.1 hi
  have q1 : inf.zero = some z := congrArg (·.1) hpr
  have q2 : inf.size = sz := congrArg (·.2.1) hpr
  have q3 : inf.bytes = bytes := congrArg (·.2.2) hpr
  have hown : w.ownsRow 0 e sz (s.v xs.length) xs.length xs.flatten := by
    cases s with
    | none => simp only [SV.ok] at hok; subst hok; exact ⟨by simp, .inl ⟨rfl, rfl⟩⟩
    | some q =>
      obtain ⟨g, cur, cap⟩ := q
      obtain ⟨o1, o2, o3, o4, o5⟩ := hok
      exact ⟨flatten_len o5, .inr ⟨g, cap, cur.toArray, rfl, Nat.zero_le _, (hw.known i g _ (hl i _ (by simp [look]))).1, o2, o3, by simpa using o1, by simpa using o4⟩⟩
  obtain ⟨l, fz, hyw, hparts⟩ := hyl w hw
  have hys : ∀ x ∈ ys, x.length = sz := fun x hx => by
    obtain ⟨j, hj⟩ := List.mem_iff_getElem?.1 hx
    exact (hparts j x hj).2
  have hfl := flatten_len hys
  have hcell : ∀ (m : Nat) (u : Value), ys.flatten[m]? = some u → w.cell? ((⟨by', off, none⟩ : Addr).add m) = some u := fun m u hm => by
    have hlt := (List.getElem?_eq_some_iff.1 hm).1
    rw [hfl] at hlt
    have hq : m / sz < ys.length := (Nat.div_lt_iff_lt_mul hsz).2 hlt
    have hx : ys[m / sz]? = some ys[m / sz] := List.getElem?_eq_getElem hq
    have h1 := flatten_part hys hx
    have h2 := (hparts _ _ hx).1
    have hmod := Nat.mod_lt m hsz
    have em : m / sz * sz + m % sz = m := by rw [Nat.mul_comm]; exact Nat.div_add_mod m sz
    have e1 : ys[m / sz][m % sz]? = ys.flatten[m]? := by
      rw [← h1, List.getElem?_take, if_pos hmod, List.getElem?_drop, em]
    have e2 : ys[m / sz][m % sz]? = l[off + m]? := by
      rw [← h2, List.getElem?_take, if_pos hmod, List.getElem?_drop, Nat.add_assoc, em]
    rw [Addr.add_none]
    have : l[off + m]? = some u := by rw [← e2, e1, hm]
    simp [World.cell?, hyw, this]
  have h1f : ∀ u ∈ ys.flatten, u.oneCell' = true := fun u hu => by
    obtain ⟨x, hx, hux⟩ := List.mem_flatten.1 hu
    exact List.all_eq_true.1 (h1 x hx) u hux
  obtain ⟨v', w', hrun, hown', hgrow, _, hblk⟩ := run_append_own_at (P := P) (w := w) 0 t t' e inf z sz bytes hu hinf q1 q2 q3 hz hsz (s.v xs.length) xs.length xs.flatten hown ⟨by', off, none⟩ ys.length c ys.flatten hfl hcell h1f hlen2 hlen (Nat.zero_le _)
  refine wpIn_of_wp (fun c h => by cases h) ?_
  unfold Oper.wp
  have hr : (execOp ac.eval { dst := some d, op := .call { callee := .builtin .append, args := #[a, b], argTypes := #[t, t] }, type := t', pos := p, after := af, guard := g }).run P w = .ok (.value v') w' := by
    simp [execOp, resolve, invoke, builtin, ha.ev hs, ha.ev hy, hrun, Result.andThen]
  rw [hr]
  obtain ⟨_, hcase⟩ := hown'
  rcases hcase with ⟨_, hz0⟩ | ⟨g', cap, cur, hv', _, hg', c1, c2, c3, c4⟩
  · omega
  · subst hv'
    have hxs5 : ∀ y ∈ xs, y.length = sz := by
      cases s with
      | none => simp only [SV.ok] at hok; subst hok; simp
      | some q => exact hok.2.2.2.2
    have hok' : SV.ok sz (some (g', cur.toList, cap)) (xs ++ ys) := by
      refine ⟨by simpa using c3, by simpa using c1, c2, ?_, fun y hy' => ?_⟩
      · rw [List.length_append, c4]; simp
      · rcases List.mem_append.1 hy' with hm | hm
        · exact hxs5 y hm
        · exact hys y hm
    refine ⟨_, _, ha.put (by simpa [Nat.blt_eq] using hN) _, hw.regrow (i := i) (g := g') (o' := .cells cur.toList.toArray e (0, 0)) hgrow (fun r hr' => ?_) (by simpa using hg') ?_, k g' cur.toList cap hok'⟩
    · cases s with
      | none => simp [Value.ownBlock] at hr'
      | some q =>
        obtain ⟨g0, cur0, cap0⟩ := q
        simp only [Value.ownBlock, Option.some.injEq] at hr'
        subst hr'
        exact ⟨.cells cur0.toArray e (0, 0), hl i _ (by simp [look])⟩
    · rcases hblk with hb | hb
      · left; rw [← hb]; rfl
      · right; simpa [Value.ownBlock] using hb
end
end Go.NP

/-
  The walks of Go's library: comparing and sorting a few whole numbers, cloning a slice.
-/
namespace Go.Proofs.Ytomdahjakkifbaa
open Go Go.NP Go.RowKit Go.Proofs
set_option maxRecDepth 100000

theorem isNaN_int (x : Int) : PureF Try.prog 103 [.int .i64 x] (.bool false) := by
  refine pure_of Try.func103 rfl Try.ntmps103 rfl fun w => ?_
  refine cw_sr ?_
  refine steps_q rfl (q_assign rfl) ?_  -- cmp.go:63
  refine steps_nil ?_
  refine cw_sr ?_
  refine steps_q rfl (q_move rfl) ?_  -- cmp.go:64
  refine steps_q rfl (q_move rfl) ?_  -- cmp.go:64
  refine steps_q rfl (q_bin rfl rfl (neq_f rfl)) ?_  -- cmp.go:64
  refine steps_q rfl (q_assign rfl) ?_  -- cmp.go:64
  refine steps_nil ?_
  refine cw_ret ?_
  exact ret_pure rfl (rv_tmp rfl rv_nil) rfl
theorem less_int (x y : Int) : PureF Try.prog 94 [.int .i64 x, .int .i64 y] (.bool (decide (x < y))) := by
  refine pure_of Try.func94 rfl Try.ntmps94 rfl fun w => ?_
  refine cw_sr ?_
  refine steps_q rfl (q_assign rfl) ?_  -- cmp.go:28
  refine steps_nil ?_
  refine cw_sr ?_
  refine steps_q rfl (q_move rfl) ?_  -- cmp.go:29
  refine steps_q rfl (q_pure ent103 rfl (isNaN_int x)) ?_  -- cmp.go:29
  refine steps_q rfl (q_move rfl) ?_  -- cmp.go:29
  refine steps_gn rfl rfl rfl rfl ?_  -- cmp.go:29
  refine steps_gn rfl rfl rfl rfl ?_  -- cmp.go:29
  refine steps_gn rfl rfl rfl rfl ?_  -- cmp.go:29
  refine steps_q rfl (q_pick_f rfl rfl) ?_  -- cmp.go:29
  refine steps_q rfl (q_move rfl) ?_  -- cmp.go:29
  refine steps_gq rfl rfl rfl (q_move rfl) ?_  -- cmp.go:29
  refine steps_gq rfl rfl rfl (q_move rfl) ?_  -- cmp.go:29
  refine steps_gq rfl rfl rfl (q_bin rfl rfl rfl) ?_  -- cmp.go:29
  refine steps_q rfl (q_pick_f rfl rfl) ?_  -- cmp.go:29
  refine steps_q rfl (q_assign rfl) ?_  -- cmp.go:29
  refine steps_nil ?_
  refine cw_ret ?_
  exact ret_pure rfl (rv_tmp rfl rv_nil) rfl
theorem bits_Len {x : Int} (h0 : 0 ≤ x) (h1 : x < B) : PureF Try.prog 78 [.int .u64 x] (.int .i64 (blen x)) := by
  refine pure_of Try.func78 rfl Try.ntmps78 rfl fun w => ?_
  refine cw_sr ?_
  refine steps_q rfl (q_assign rfl) ?_  -- bits.go:302
  refine steps_nil ?_
  refine cw_seq ?_
  refine cw_cond _ rfl (fun hc1 => ?_) (fun hc1 => ?_)
  · cases hc1
  · -- no 1
    refine cw_skip ?_
    refine at_then ?_
    refine cw_sr ?_
    refine steps_q rfl (q_move rfl) ?_  -- bits.go:306
    refine steps_q rfl (q_pure ent86 rfl (bits_Len64 h0 h1)) ?_  -- bits.go:306
    refine steps_q rfl (q_assign rfl) ?_  -- bits.go:306
    refine steps_nil ?_
    refine cw_ret ?_
    exact ret_pure rfl (rv_tmp rfl rv_nil) rfl

/-! ## Sorting in place -/
def vI (ys : List Int) : List Value := ys.map (Value.int .i64 ·)
theorem vI_get {ys : List Int} {rest : List Value} {j : Int} (h0 : 0 ≤ j) (h1 : j < ys.length) : (vI ys ++ rest)[0 + j.toNat * 1]? = some (.int .i64 (ys.getD j.toNat 0)) := by
  have h : j.toNat < ys.length := by omega
  rw [Nat.zero_add, Nat.mul_one, List.getElem?_append_left (by simpa [vI] using h), vI, List.getElem?_map, List.getD_eq_getElem?_getD, List.getElem?_eq_getElem h]
  rfl
theorem vI_wr {ys : List Int} {rest : List Value} {j : Int} (h0 : 0 ≤ j) (h1 : j < ys.length) (v : Int) : wr (vI ys ++ rest) (0 + j.toNat * 1) [.int .i64 v] = vI (ys.set j.toNat v) ++ rest := by
  have h : j.toNat < (vI ys).length := by simp [vI]; omega
  rw [Nat.zero_add, Nat.mul_one]
  have e : vI (ys.set j.toNat v) = (vI ys).set j.toNat (.int .i64 v) := by simp [vI, List.map_set]
  rw [e, List.set_eq_take_append_cons_drop, if_pos h]
  simp only [wr, List.length_singleton]
  rw [List.take_append_of_le_length (by omega), List.drop_append_of_le_length (by omega)]
  simp
theorem getD_set {ys : List Int} {j p : Nat} {v : Int} (h : j < ys.length) : (ys.set j v).getD p 0 = if p = j then v else ys.getD p 0 := by
  simp only [List.getD_eq_getElem?_getD, List.getElem?_set]
  by_cases e : p = j
  · subst e; simp [h]
  · rw [if_neg (Ne.symm e), if_neg e]
/-- The first of them are in order. -/
def Srt (i : Nat) (ys : List Int) : Prop := ∀ p q, p < q → q < i → ys.getD p 0 ≤ ys.getD q 0
/-- So they are, but for the one that goes down. -/
def SrtB (i j : Nat) (ys : List Int) : Prop := ∀ p q, p < q → q ≤ i → q ≠ j → ys.getD p 0 ≤ ys.getD q 0
theorem SrtB.begin {i : Nat} {ys : List Int} (h : Srt i ys) : SrtB i i ys := fun p q h1 h2 h3 => h p q h1 (by omega)
theorem SrtB.done {i j : Nat} {ys : List Int} (h : SrtB i j ys) (hj : j = 0 ∨ ¬ ys.getD j 0 < ys.getD (j - 1) 0) : Srt (i + 1) ys := fun p q h1 h2 => by
  by_cases e : q = j
  · subst e
    rcases hj with rfl | hj
    · omega
    · by_cases hp : p = q - 1
      · subst hp; omega
      · have := h p (q - 1) (by omega) (by omega) (by omega); omega
  · exact h p q h1 (by omega) e
theorem SrtB.step {i j : Nat} {ys : List Int} (h : SrtB i j ys) (h0 : 0 < j) (h1 : j ≤ i) (hl : i < ys.length) (hlt : ys.getD j 0 < ys.getD (j - 1) 0) :
    SrtB i (j - 1) ((ys.set j (ys.getD (j - 1) 0)).set (j - 1) (ys.getD j 0)) := by
  have hg : ∀ p, ((ys.set j (ys.getD (j - 1) 0)).set (j - 1) (ys.getD j 0)).getD p 0 = if p = j - 1 then ys.getD j 0 else if p = j then ys.getD (j - 1) 0 else ys.getD p 0 := fun p => by
    rw [getD_set (by rw [List.length_set]; omega), getD_set (by omega)]
  intro p q hpq hq hne
  rw [hg, hg]
  rw [if_neg hne]
  by_cases e1 : q = j
  · subst e1
    rw [if_pos rfl]
    split
    · omega
    · rw [if_neg (by omega)]
      exact h p (q - 1) (by omega) (by omega) (by omega)
  · rw [if_neg e1]
    split
    · rename_i e2
      exact h j q (by omega) hq e1
    · split
      · exact h (j - 1) q (by omega) hq e1
      · exact h p q hpq hq e1
theorem swap_perm {ys : List Int} {i j : Nat} (hi : i < ys.length) (hj : j < ys.length) : ((ys.set i (ys.getD j 0)).set j (ys.getD i 0)).Perm ys := by
  have e1 : ys.getD j 0 = ys[j] := by simp [List.getD_eq_getElem?_getD, hj]
  have e2 : ys.getD i 0 = ys[i] := by simp [List.getD_eq_getElem?_getD, hi]
  rw [e1, e2]
  exact List.set_set_perm hi hj
theorem srt_pairwise {ys : List Int} (h : Srt ys.length ys) : ys.Pairwise (· ≤ ·) := by
  rw [List.pairwise_iff_getElem]
  intro i j hi hj hij
  have := h i j hij hj
  simpa [List.getD_eq_getElem?_getD, hi, hj] using this
section
variable {P : Program} {w0 : World} {M : List Nat} {N : Nat} {D : Dfr} {T : TL} {L : HL}
/-- A call that turns one known block, into one of which R is told. -/
theorem s_callUpdE (i : Nat) {d : Nat} {x : Operand} {args : Array Operand} {ts : Array TypeId} {f : FuncId} {fs cs : Array Value} {vs : List Value} {t : TypeId} {p : String} {af : Array Edge} {g : Option (Nat × Bool)} {K : TL → HL → Prop} {Q : Exit → Act → World → Prop} {b k : Nat} {o : Obj} {v : Value} {R : Obj → Prop}
    (he : Ent P f) (hN : Nat.blt d N = true) (hx : ev T x = some (.func (.func f) fs cs)) (hv : evs T args.toList = some vs) (hl : NP.look L i = some (b, o))
    (h : ∀ w, w.heap[b]? = some o → Calls P f (fs ++ vs.toArray ++ cs) w fun e w' => e = .returned v ∧ ∃ o', R o' ∧ St w [b] w' [(k, (b, o'))])
    (kk : ∀ o', R o' → K ((d, v) :: T) ((i, (b, o')) :: L)) :
    Step P w0 M N D { dst := some d, op := .call { callee := .value x, args := args, argTypes := ts }, type := t, pos := p, after := af, guard := g } T L K Q :=
  s_call he hN hx hv fun w hw => (h w (hw.known i b o hl).1).mono fun _ _ ⟨h1, o', hR, h2⟩ => ⟨v, _, h1, hw.call1 hl h2, kk o' hR⟩
theorem end_upd {b k : Nat} {o' : Obj} {fn : Func} {R : Obj → Prop} (hr : fn.results.toList = []) (hR : R o') (hl : SubL [(k, (b, o'))] L) :
    At w0 [b] N D0 (bodyPost P fn fun e w' => e = .returned (.tuple #[]) ∧ ∃ o', R o' ∧ St w0 [b] w' [(k, (b, o'))]) .normal T L :=
  at_end hr rv_nil fun _ hw => ⟨rfl, o', hR, hw.weaken hl⟩
theorem ret_upd {b k : Nat} {o' : Obj} {fn : Func} {R : Obj → Prop} (hr : fn.results.toList = []) (hR : R o') (hl : SubL [(k, (b, o'))] L) :
    At w0 [b] N D0 (bodyPost P fn fun e w' => e = .returned (.tuple #[]) ∧ ∃ o', R o' ∧ St w0 [b] w' [(k, (b, o'))]) .ret T L :=
  at_ret hr rv_nil fun _ hw => ⟨rfl, o', hR, hw.weaken hl⟩
end
/-- A few numbers in order. -/
def SortedO (ys : List Int) (rest : List Value) (o : Obj) : Prop := ∃ zs : List Int, o = .cells (vI zs ++ rest).toArray 3 (0, 0) ∧ zs.Perm ys ∧ zs.Pairwise (· ≤ ·)

set_option maxHeartbeats 4000000 in
theorem insSort {ys : List Int} {rest : List Value} {b cap : Nat} (hl : ys.length ≤ 12) (w : World) (hb : w.heap[b]? = some (.cells (vI ys ++ rest).toArray 3 (0, 0))) :
    Calls Try.prog 88 #[.slice (some ⟨b, 0, none⟩) ys.length cap, .int .i64 0, .int .i64 ys.length] w fun e w' => e = .returned (.tuple #[]) ∧ ∃ o', SortedO ys rest o' ∧ St w [b] w' [(1, (b, o'))] := by
  refine calls_of Try.func88 rfl Try.ntmps88 rfl (St.start1 (i := 1) w hb) (args := [.slice (some ⟨b, 0, none⟩) ys.length cap, .int .i64 0, .int .i64 ys.length]) ?_
  refine cw_sr ?_
  refine steps_q rfl (q_move rfl) ?_  -- zsortordered.go:13
  refine steps_q rfl (q_bin rfl rfl (add64 (by omega) (by omega))) ?_  -- zsortordered.go:13
  refine steps_q rfl (q_assign rfl) ?_  -- zsortordered.go:13
  refine steps_nil ?_
  refine cw_block ?_
  -- LOOP 1 writes [6, 7, 10, 11, 12, 13, 14, 15, 16, 17, 18, 19, 20, 21, 22, 23, 24, 25, 26, 27, 28, 29, 30, 31, 32, 33, 34, 35, 36, 37, 38, 39, 40, 41, 42, 43, 44, 45, 46, 47, 48]  stores via [47, 48]  reads [0, 1, 2]
  refine cw_loop (S := Int × List Int) (fun s => [(0, .slice (some ⟨b, 0, none⟩) ys.length cap), (1, .int .i64 0), (2, .int .i64 ys.length), (6, .int .i64 s.1)]) (fun s => [(1, (b, .cells (vI s.2 ++ rest).toArray 3 (0, 0)))]) (fun s => 1 ≤ s.1 ∧ (s.1 ≤ ys.length ∨ s.1 = 1) ∧ s.2.Perm ys ∧ Srt s.1.toNat s.2) (fun s => (ys.length - s.1).toNat) (1, ys) ⟨by dsimp only; omega, .inr rfl, List.Perm.refl _, fun p q h1 h2 => by dsimp only at h2; omega⟩ (subs ⟨rfl, rfl, rfl, rfl, trivial⟩) (subs ⟨rfl, trivial⟩) ?_
  rintro ⟨i, zs⟩ ⟨i0, i1, hp, hs⟩
  dsimp only at i0 i1 hp hs
  conv => enter [7]; dsimp only
  conv => enter [8]; dsimp only
  have hzl := hp.length_eq
  refine cw_seq ?_
  refine cw_sr ?_
  refine steps_q rfl (q_move rfl) ?_  -- zsortordered.go:13
  refine steps_q rfl (q_move rfl) ?_  -- zsortordered.go:13
  refine steps_q rfl (q_bin rfl rfl rfl) ?_  -- zsortordered.go:13
  refine steps_nil ?_
  refine cw_cond _ rfl (fun hc1 => ?_) (fun hc1 => ?_)
  · -- yes 1
    have hi : i < ys.length := of_decide_eq_true hc1
    refine cw_skip ?_
    refine at_then ?_
    refine cw_seq ?_
    refine cw_block ?_
    refine cw_sr ?_
    refine steps_q rfl (q_move rfl) ?_  -- zsortordered.go:14
    refine steps_q rfl (q_assign rfl) ?_  -- zsortordered.go:14
    refine steps_nil ?_
    refine cw_block ?_
    -- LOOP 2 writes [7, 16, 17, 18, 19, 20, 21, 22, 23, 24, 25, 26, 27, 28, 29, 30, 31, 32, 33, 34, 35, 36, 37, 38, 39, 40, 41, 42, 43, 44, 45, 46, 47, 48]  stores via [47, 48]  reads [0, 1]
    refine cw_loop (S := Int × List Int) (fun s => [(0, .slice (some ⟨b, 0, none⟩) ys.length cap), (1, .int .i64 0), (2, .int .i64 ys.length), (6, .int .i64 i), (7, .int .i64 s.1)]) (fun s => [(1, (b, .cells (vI s.2 ++ rest).toArray 3 (0, 0)))]) (fun s => 0 ≤ s.1 ∧ s.1 ≤ i ∧ s.2.Perm ys ∧ SrtB i.toNat s.1.toNat s.2) (fun s => s.1.toNat) (i, zs) ⟨by dsimp only; omega, by dsimp only; omega, hp, SrtB.begin hs⟩ (subs ⟨rfl, rfl, rfl, rfl, rfl, trivial⟩) (subs ⟨rfl, trivial⟩) ?_
    rintro ⟨j, us⟩ ⟨j0, j1, hp2, hs2⟩
    dsimp only at j0 j1 hp2 hs2
    conv => enter [7]; dsimp only
    conv => enter [8]; dsimp only
    have hul := hp2.length_eq
    refine cw_seq ?_
    rcases Decidable.em (j > 0) with hj | hj
    · -- way 4.a
      refine cw_sd mixed [0, 1, 2, 3, 4, 5, 6, 7, 8, 9, 10, 11, 12, 13, 14] 0 _ (by kernel_rfl) (SubL.refl _) ?_
      refine qi_q rfl rfl (q_move rfl) ?_  -- zsortordered.go:14
      refine qi_q rfl rfl (q_move rfl) ?_  -- zsortordered.go:14
      refine qi_q rfl rfl (q_bin rfl rfl (gtr_t hj)) ?_  -- zsortordered.go:14
      refine qi_q rfl rfl (q_move rfl) ?_  -- zsortordered.go:14
      refine qi_gq rfl rfl rfl rfl (q_move rfl) ?_  -- zsortordered.go:14
      refine qi_gq rfl rfl rfl rfl (q_move rfl) ?_  -- zsortordered.go:14
      refine qi_gq rfl rfl rfl rfl (q_indexSl slc29 rfl rfl j0 (by omega)) ?_  -- zsortordered.go:14
      refine qi_gq rfl rfl rfl rfl (q_load1 1 one3 rfl rfl (vI_get j0 (by omega))) ?_  -- zsortordered.go:14
      refine qi_gq rfl rfl rfl rfl (q_move rfl) ?_  -- zsortordered.go:14
      refine qi_gq rfl rfl rfl rfl (q_move rfl) ?_  -- zsortordered.go:14
      refine qi_gq rfl rfl rfl rfl (q_bin rfl rfl (sub64 (by omega) (by omega))) ?_  -- zsortordered.go:14
      refine qi_gq rfl rfl rfl rfl (q_indexSl slc29 rfl rfl (by omega) (by omega)) ?_  -- zsortordered.go:14
      refine qi_gq rfl rfl rfl rfl (q_load1 1 one3 rfl rfl (vI_get (by omega) (by omega))) ?_  -- zsortordered.go:14
      refine qi_gq rfl rfl rfl rfl (q_pure ent94 rfl (less_int _ _)) ?_  -- zsortordered.go:14
      refine qi_q rfl rfl (q_pick_t rfl rfl) ?_  -- zsortordered.go:14
      refine qi_nil ?_
      refine tail_nil (by kernel_rfl) ?_
      refine cw_cond _ rfl (fun hc2 => ?_) (fun hc2 => ?_)
      · -- yes 2
        have hlt : us.getD j.toNat 0 < us.getD (j - 1).toNat 0 := of_decide_eq_true hc2
        rw [show (j - 1).toNat = j.toNat - 1 by omega] at hlt
        have hstep := SrtB.step hs2 (by omega) (by omega) (by omega) hlt
        have hperm := (swap_perm (ys := us) (i := j.toNat) (j := j.toNat - 1) (by omega) (by omega)).trans hp2
        refine cw_skip ?_
        refine at_then ?_
        refine cw_seq ?_
        refine cw_block ?_
        refine cw_meet (fun _ => [(0, .slice (some ⟨b, 0, none⟩) ys.length cap), (1, .int .i64 0), (2, .int .i64 ys.length), (6, .int .i64 i), (7, .int .i64 j)]) (fun _ => [(1, (b, .cells (vI ((us.set j.toNat (us.getD (j - 1).toNat 0)).set (j - 1).toNat (us.getD j.toNat 0)) ++ rest).toArray 3 (0, 0)))]) ?_ ?_
        · -- the orders of region 6
          refine cw_draw mixed [0, 1, 2, 3, 4, 5, 6, 7, 8, 10, 11, 12] 6 (without _ [1]) (by kernel_rfl) (sub_without _ _) ?_
          refine qi_q rfl rfl (q_move rfl) ?_  -- zsortordered.go:15
          refine qi_q rfl rfl (q_move rfl) ?_  -- zsortordered.go:15
          refine qi_q rfl rfl (q_move rfl) ?_  -- zsortordered.go:15
          refine qi_q rfl rfl (q_move rfl) ?_  -- zsortordered.go:15
          refine qi_q rfl rfl (q_bin rfl rfl (sub64 (by omega) (by omega))) ?_  -- zsortordered.go:15
          refine qi_q rfl rfl (q_move rfl) ?_  -- zsortordered.go:15
          refine qi_q rfl rfl (q_move rfl) ?_  -- zsortordered.go:15
          refine qi_q rfl rfl (q_bin rfl rfl (sub64 (by omega) (by omega))) ?_  -- zsortordered.go:15
          refine qi_q rfl rfl (q_indexSl slc29 rfl rfl (by omega) (by omega)) ?_  -- zsortordered.go:15
          refine qi_q rfl rfl (q_move rfl) ?_  -- zsortordered.go:15
          refine qi_q rfl rfl (q_move rfl) ?_  -- zsortordered.go:15
          refine qi_q rfl rfl (q_indexSl slc29 rfl rfl j0 (by omega)) ?_  -- zsortordered.go:15
          refine qi_nil ?_
          refine tail_cons [9, 13] (by kernel_rfl) ⟨⟨_, rfl, rfl, ?_⟩, ⟨_, rfl, rfl, ?_⟩, trivial⟩
          · refine (q_load1 1 one3 rfl rfl (vI_get (by omega) (by omega))).step rfl (by decide) ⟨(sub_without _ _), ?_⟩
            refine tail_one 13 (by kernel_rfl) rfl rfl ((q_load1 1 one3 rfl rfl (vI_get j0 (by omega))).step rfl (by decide) ⟨(sub_without _ _), ?_⟩)  -- zsortordered.go:15
            refine tail_one 14 (by kernel_rfl) rfl rfl ((q_indexSl slc29 rfl rfl j0 (by omega)).step rfl (by decide) ⟨(sub_without _ _), ?_⟩)  -- zsortordered.go:15
            refine tail_one 15 (by kernel_rfl) rfl rfl (s_store1 1 siz3 rfl rfl rfl rfl rfl (by simp [vI]; omega) (vI_wr j0 (by omega) _) ⟨(subl_cons rfl (sub_without _ _)), ?_⟩)  -- zsortordered.go:15
            refine tail_one 16 (by kernel_rfl) rfl rfl ((q_indexSl slc29 rfl rfl (by omega) (by omega)).step rfl (by decide) ⟨(subl_cons rfl (sub_without _ _)), ?_⟩)  -- zsortordered.go:15
            refine tail_one 17 (by kernel_rfl) rfl rfl (s_store1 1 siz3 rfl rfl rfl rfl rfl (by simp [vI]; omega) (vI_wr (by omega) (by rw [List.length_set]; omega) _) ⟨(subl_cons rfl (subl_cons rfl (sub_without _ _))), ?_⟩)  -- zsortordered.go:15
            refine tail_nil (by kernel_rfl) ?_
            exact at_join () (trivial) (subs ⟨rfl, rfl, rfl, rfl, rfl, trivial⟩) (subs ⟨rfl, trivial⟩)
          · refine (q_load1 1 one3 rfl rfl (vI_get j0 (by omega))).step rfl (by decide) ⟨(sub_without _ _), ?_⟩
            refine tail_one 9 (by kernel_rfl) rfl rfl ((q_load1 1 one3 rfl rfl (vI_get (by omega) (by omega))).step rfl (by decide) ⟨(sub_without _ _), ?_⟩)  -- zsortordered.go:15
            refine tail_one 14 (by kernel_rfl) rfl rfl ((q_indexSl slc29 rfl rfl j0 (by omega)).step rfl (by decide) ⟨(sub_without _ _), ?_⟩)  -- zsortordered.go:15
            refine tail_one 15 (by kernel_rfl) rfl rfl (s_store1 1 siz3 rfl rfl rfl rfl rfl (by simp [vI]; omega) (vI_wr j0 (by omega) _) ⟨(subl_cons rfl (sub_without _ _)), ?_⟩)  -- zsortordered.go:15
            refine tail_one 16 (by kernel_rfl) rfl rfl ((q_indexSl slc29 rfl rfl (by omega) (by omega)).step rfl (by decide) ⟨(subl_cons rfl (sub_without _ _)), ?_⟩)  -- zsortordered.go:15
            refine tail_one 17 (by kernel_rfl) rfl rfl (s_store1 1 siz3 rfl rfl rfl rfl rfl (by simp [vI]; omega) (vI_wr (by omega) (by rw [List.length_set]; omega) _) ⟨(subl_cons rfl (subl_cons rfl (sub_without _ _))), ?_⟩)  -- zsortordered.go:15
            refine tail_nil (by kernel_rfl) ?_
            exact at_join () (trivial) (subs ⟨rfl, rfl, rfl, rfl, rfl, trivial⟩) (subs ⟨rfl, trivial⟩)
        · -- behind region 6
          refine at_then ?_
          refine cw_region ?_
          refine steps_q rfl (q_move rfl) ?_  -- zsortordered.go:14
          refine steps_q rfl (q_bin rfl rfl (sub64 (by omega) (by omega))) ?_  -- zsortordered.go:14
          refine steps_q rfl (q_assign rfl) ?_  -- zsortordered.go:14
          refine steps_nil ?_
          exact at_round (j - 1, (us.set j.toNat (us.getD (j.toNat - 1) 0)).set (j.toNat - 1) (us.getD j.toNat 0)) ⟨by dsimp only; omega, by dsimp only; omega, hperm, by dsimp only; rw [show (j - 1).toNat = j.toNat - 1 by omega]; exact hstep⟩ (by dsimp only; omega) (subs ⟨rfl, rfl, rfl, rfl, rfl, trivial⟩) (subs ⟨by dsimp only; rw [show (j - 1).toNat = j.toNat - 1 by omega]; rfl, trivial⟩)
      · -- no 2
        have hlt : ¬ us.getD j.toNat 0 < us.getD (j - 1).toNat 0 := of_decide_eq_false hc2
        rw [show (j - 1).toNat = j.toNat - 1 by omega] at hlt
        have hdone := hs2.done (.inr hlt)
        refine cw_exit ?_
        refine at_then ?_
        refine cw_region ?_
        refine steps_q rfl (q_move rfl) ?_  -- zsortordered.go:13
        refine steps_q rfl (q_bin rfl rfl (add64 (by omega) (by omega))) ?_  -- zsortordered.go:13
        refine steps_q rfl (q_assign rfl) ?_  -- zsortordered.go:13
        refine steps_nil ?_
        exact at_round (i + 1, us) ⟨by dsimp only; omega, .inl (by dsimp only; omega), hp2, by dsimp only; rw [show (i + 1).toNat = i.toNat + 1 by omega]; exact hdone⟩ (by dsimp only; omega) (subs ⟨rfl, rfl, rfl, rfl, trivial⟩) (subs ⟨rfl, trivial⟩)
    · -- way 4.b
      refine cw_sd mixed [0, 1, 2, 3, 4, 5, 6, 7, 8, 9, 10, 11, 12, 13, 14] 0 _ (by kernel_rfl) (SubL.refl _) ?_
      refine qi_q rfl rfl (q_move rfl) ?_  -- zsortordered.go:14
      refine qi_q rfl rfl (q_move rfl) ?_  -- zsortordered.go:14
      refine qi_q rfl rfl (q_bin rfl rfl (gtr_f hj)) ?_  -- zsortordered.go:14
      refine qi_q rfl rfl (q_move rfl) ?_  -- zsortordered.go:14
      refine qi_gn rfl rfl rfl rfl rfl ?_  -- zsortordered.go:14
      refine qi_gn rfl rfl rfl rfl rfl ?_  -- zsortordered.go:14
      refine qi_gn rfl rfl rfl rfl rfl ?_  -- zsortordered.go:14
      refine qi_gn rfl rfl rfl rfl rfl ?_  -- zsortordered.go:14
      refine qi_gn rfl rfl rfl rfl rfl ?_  -- zsortordered.go:14
      refine qi_gn rfl rfl rfl rfl rfl ?_  -- zsortordered.go:14
      refine qi_gn rfl rfl rfl rfl rfl ?_  -- zsortordered.go:14
      refine qi_gn rfl rfl rfl rfl rfl ?_  -- zsortordered.go:14
      refine qi_gn rfl rfl rfl rfl rfl ?_  -- zsortordered.go:14
      refine qi_gn rfl rfl rfl rfl rfl ?_  -- zsortordered.go:14
      refine qi_q rfl rfl (q_pick_f rfl rfl) ?_  -- zsortordered.go:14
      refine qi_nil ?_
      refine tail_nil (by kernel_rfl) ?_
      refine cw_cond _ rfl (fun hc2 => ?_) (fun hc2 => ?_)
      · cases hc2
      · -- no 2
        have hdone := hs2.done (.inl (by omega))
        refine cw_exit ?_
        refine at_then ?_
        refine cw_region ?_
        refine steps_q rfl (q_move rfl) ?_  -- zsortordered.go:13
        refine steps_q rfl (q_bin rfl rfl (add64 (by omega) (by omega))) ?_  -- zsortordered.go:13
        refine steps_q rfl (q_assign rfl) ?_  -- zsortordered.go:13
        refine steps_nil ?_
        exact at_round (i + 1, us) ⟨by dsimp only; omega, .inl (by dsimp only; omega), hp2, by dsimp only; rw [show (i + 1).toNat = i.toNat + 1 by omega]; exact hdone⟩ (by dsimp only; omega) (subs ⟨rfl, rfl, rfl, rfl, trivial⟩) (subs ⟨rfl, trivial⟩)
  · -- no 1
    have hi : ¬ i < ys.length := of_decide_eq_false hc1
    refine cw_exit ?_
    exact end_upd rfl ⟨zs, rfl, hp, srt_pairwise fun p q h1 h2 => hs p q h1 (by omega)⟩ (subs ⟨rfl, trivial⟩)
theorem pdqSort {ys : List Int} {rest : List Value} {b cap : Nat} {lim : Int} (hl : ys.length ≤ 12) (w : World) (hb : w.heap[b]? = some (.cells (vI ys ++ rest).toArray 3 (0, 0))) :
    Calls Try.prog 77 #[.slice (some ⟨b, 0, none⟩) ys.length cap, .int .i64 0, .int .i64 ys.length, .int .i64 lim] w fun e w' => e = .returned (.tuple #[]) ∧ ∃ o', SortedO ys rest o' ∧ St w [b] w' [(1, (b, o'))] := by
  refine calls_of Try.func77 rfl Try.ntmps77 rfl (St.start1 (i := 1) w hb) (args := [.slice (some ⟨b, 0, none⟩) ys.length cap, .int .i64 0, .int .i64 ys.length, .int .i64 lim]) ?_
  refine cw_sr ?_
  refine steps_q rfl (q_assign rfl) ?_  -- zsortordered.go:67
  refine steps_nil ?_
  refine cw_sr ?_
  refine steps_q rfl (q_assign rfl) ?_  -- zsortordered.go:68
  refine steps_nil ?_
  refine cw_block ?_
  -- LOOP 1 writes [1, 2, 3, 8, 9, 10, 11, 12, 13, 14, 15, 16, 17, 18, 19, 20, 21, 22, 23, 24, 25, 26, 28, 29, 30, 31, 32, 34, 35, 36, 37, 38, 40, 41, 42, 43, 44, 45, 46, 47, 48, 49, 50, 51, 52, 53, 55, 56, 57, 58, 59, 60, 61, 62, 63, 64, 65, 66, 67, 68, 69, 70, 71, 72, 73, 74, 75, 76, 77, 78, 79, 80, 81, 82, 83, 84, 85, 86, 87, 88, 89, 90, 91, 92, 93, 94, 95, 96, 97, 98, 99, 100, 101, 102, 103, 104, 105, 106, 107, 108, 109, 110, 111, 112, 113, 114, 115, 116, 117, 118, 119, 120, 122, 123, 124, 125, 126, 127, 128, 129, 130, 131, 133]  stores via []  reads [0]
  refine cw_loop (S := Unit) (fun s => [(0, .slice (some ⟨b, 0, none⟩) ys.length cap), (1, .int .i64 0), (2, .int .i64 ys.length)]) (fun s => [(1, (b, .cells (vI ys ++ rest).toArray 3 (0, 0)))]) (fun s => True) (fun s => 0) () trivial (subs ⟨rfl, rfl, rfl, trivial⟩) (subs ⟨rfl, trivial⟩) ?_
  intro s _
  refine cw_block ?_
  refine cw_sr ?_
  refine steps_q rfl (q_move rfl) ?_  -- zsortordered.go:72
  refine steps_q rfl (q_move rfl) ?_  -- zsortordered.go:72
  refine steps_q rfl (q_bin rfl rfl (sub64 (by omega) (by omega))) ?_  -- zsortordered.go:72
  refine steps_q rfl (q_assign rfl) ?_  -- zsortordered.go:72
  refine steps_nil ?_
  refine cw_seq ?_
  refine cw_sr ?_
  refine steps_q rfl (q_move rfl) ?_  -- zsortordered.go:74
  refine steps_q rfl (q_bin rfl rfl rfl) ?_  -- zsortordered.go:74
  refine steps_nil ?_
  refine cw_cond _ rfl (fun hc1 => ?_) (fun hc1 => ?_)
  · -- yes 1
    refine cw_sr ?_
    refine steps_q rfl (q_move rfl) ?_  -- zsortordered.go:75
    refine steps_q rfl (q_move rfl) ?_  -- zsortordered.go:75
    refine steps_q rfl (q_move rfl) ?_  -- zsortordered.go:75
    refine steps_s (s_callUpdE (k := 1) 1 ent88 rfl rfl rfl rfl (R := SortedO ys rest) (fun w' hw => by simpa using insSort hl w' hw) fun o' hR => ?_)  -- zsortordered.go:75
    refine steps_nil ?_
    refine cw_ret ?_
    exact ret_upd rfl hR (subs ⟨rfl, trivial⟩)
  · have hc : ¬ ((ys.length : Int) - 0 ≤ 12) := of_decide_eq_false hc1
    omega
theorem sort_ints {ys : List Int} {rest : List Value} {b cap : Nat} (hl : ys.length ≤ 12) (w : World) (hb : w.heap[b]? = some (.cells (vI ys ++ rest).toArray 3 (0, 0))) :
    Calls Try.prog 55 #[.slice (some ⟨b, 0, none⟩) ys.length cap] w fun e w' => e = .returned (.tuple #[]) ∧ ∃ o', SortedO ys rest o' ∧ St w [b] w' [(1, (b, o'))] := by
  refine calls_of Try.func55 rfl Try.ntmps55 rfl (St.start1 (i := 1) w hb) (args := [.slice (some ⟨b, 0, none⟩) ys.length cap]) ?_
  refine cw_sr ?_
  refine steps_q rfl (q_move rfl) ?_  -- sort.go:17
  refine steps_q rfl (q_lenSl Try.underlying29 rfl) ?_  -- sort.go:17
  refine steps_q rfl (q_assign rfl) ?_  -- sort.go:17
  refine steps_nil ?_
  refine cw_region ?_
  refine steps_q rfl (q_move rfl) ?_  -- sort.go:18
  refine steps_q rfl (q_move rfl) ?_  -- sort.go:18
  refine steps_q rfl (q_move rfl) ?_  -- sort.go:18
  refine steps_q rfl (q_conv conv3_75 rfl rfl) ?_  -- sort.go:18
  rw [IntWalk.u64_in _ (by omega)]
  refine steps_q rfl (q_pure ent78 rfl (bits_Len (by omega) (show (ys.length : Int) < 18446744073709551616 by omega))) ?_  -- sort.go:18
  refine steps_s (s_callUpdE (k := 1) 1 ent77 rfl rfl rfl rfl (R := SortedO ys rest) (fun w' hw => by simpa using pdqSort hl w' hw) fun o' hR => ?_)  -- sort.go:18
  refine steps_nil ?_
  exact end_upd rfl hR (subs ⟨rfl, trivial⟩)
/-- What Clone hands back. -/
def CL (c : List Int) (v : Value) (Ln : HL) : Prop := ∃ g cur cap, v = .slice (some ⟨g, 0, none⟩) c.length cap ∧ Ln = [(65, (g, .cells cur.toArray 3 (0, 0)))] ∧ SV.ok 1 (some (g, cur, cap)) (c.map intC)
theorem clone_ints {c : List Int} {v : Value} (w : World) (hv : SlAt w 3 1 v (c.map intC)) (h1 : 1 ≤ c.length) (h4 : c.length ≤ 1000) :
    Calls Try.prog 54 #[v] w fun e w' => ∃ v Ln, e = .returned v ∧ CL c v Ln ∧ St w [] w' Ln := by
  obtain ⟨a, k, rfl, hs⟩ := hv
  rw [List.length_map]
  obtain ⟨bl, off, l, fz, rfl, hb, hpt⟩ := hs.resolve_left (by intro h; rw [List.map_eq_nil_iff] at h; subst h; simp at h1)
  have hblt : bl < w.heap.size := (Array.getElem?_eq_some_iff.1 hb).1
  refine calls_of Try.func54 rfl Try.ntmps54 rfl (St.start w) (args := [.slice (some ⟨bl, off, none⟩) c.length k]) ?_
  refine cw_sr ?_
  refine steps_q rfl (q_assign rfl) ?_  -- slices.go:355
  refine steps_nil ?_
  refine cw_seq ?_
  refine cw_sr ?_
  refine steps_q rfl (q_move rfl) ?_  -- slices.go:357
  refine steps_q rfl (q_slnil Try.underlying29 rfl) ?_  -- slices.go:357
  refine steps_nil ?_
  refine cw_cond _ rfl (fun hc1 => ?_) (fun hc1 => ?_)
  · cases hc1
  · -- no 1
    refine cw_skip ?_
    refine at_then ?_
    refine cw_sr ?_
    refine steps_s (s_buildSl 65 (vs := []) rfl rfl rfl (l := []) (e := 3) (fun w => by kernel_rfl) fun b5 => ?_)  -- slices.go:362
    refine steps_q rfl (q_move rfl) ?_  -- slices.go:362
    refine steps_s (s_appendM 65 (some (b5, [], 0)) 0 c.length [] (c.map intC) rfl (List.length_map _) elt29 rfl rfl ⟨rfl, Nat.le_refl _, Nat.zero_le _, rfl, fun y hy => nomatch hy⟩ (subs ⟨rfl, trivial⟩) rfl (fun w' hw => ⟨l, fz, (hw.below.block bl hblt).trans hb, hpt⟩) (fun x hx => by obtain ⟨y, _, rfl⟩ := List.mem_map.1 hx; rfl) (by omega) (by unfold maxLen; omega) (by omega) fun g cur cap hk => ?_)  -- slices.go:362
    refine steps_q rfl (q_assign rfl) ?_  -- slices.go:362
    refine steps_nil ?_
    refine cw_ret ?_
    exact at_ret rfl (rv_tmp rfl rv_nil) fun w' hw => ⟨_, _, rfl, ⟨g, cur, cap, by rw [Nat.zero_add]; rfl, rfl, hk⟩, hw.weaken (subs ⟨rfl, trivial⟩)⟩
end Go.Proofs.Ytomdahjakkifbaa
