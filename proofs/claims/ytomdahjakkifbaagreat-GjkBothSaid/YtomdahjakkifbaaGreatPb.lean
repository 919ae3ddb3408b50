/-
  Slices of one's own: built, grown; slices that are told. A deferred closure that would recover, in a call that does not panic. Integers of 512 bits as eight limbs. Whole numbers of 64 bits without a sign. Sums of limbs with what is carried; what stands against them: plain arithmetic. Products of limbs: plain arithmetic. Bits: plain arithmetic. Halves and products by powers of two, limb by limb, as the program makes them. Long division: the quotient's bits. What the walks ask of the program: types, functions. Written by typegen.py. Values that are built of parts. The walks of package wide: Of, negative, above, not, plus. The walks of package wide: plus, minus, size, Add, Sub, Neg, Sign, Cmp. '==' on structs and arrays of whole numbers.
-/
import Derived.Test.YtomdahjakkifbaaGreatPa
import Derived.Maps.AppendAt
import Derived.Great.BuildSlice
import Derived.Recover
import Derived.Test.YtomdahjakkifbaaGreatProg
import Derived.Laws.StructEq

/-
  Slices of one's own: built, grown; slices that are told.
-/
namespace Go.NP
open Go Go.RowKit

/-- A slice of one's own: nil, or a block, its cells, its capacity. -/
abbrev SV := Option (Nat × List Value × Nat)
@[reducible] def SV.v : SV → Nat → Value
  | none, _ => .slice none 0 0
  | some (g, _, cap), n => .slice (some ⟨g, 0, none⟩) n cap
@[reducible] def SV.l (i : Nat) (e : TypeId) : SV → HL
  | none => []
  | some (g, cur, _) => [(i, (g, .cells cur.toArray e (0, 0)))]
def SV.ok (s : Nat) : SV → List (List Value) → Prop
  | none, xs => xs = []
  | some (_, cur, cap), xs => cur.length = cap * s ∧ xs.length ≤ cap ∧ cap ≤ maxLen ∧ cur.take (xs.length * s) = xs.flatten ∧ ∀ x ∈ xs, x.length = s

theorem flatten_len {s : Nat} : ∀ {xs : List (List Value)}, (∀ x ∈ xs, x.length = s) → xs.flatten.length = xs.length * s
  | [], _ => by simp
  | x :: r, h => by
    have := flatten_len (xs := r) fun y hy => h y (by simp [hy])
    simp only [List.flatten_cons, List.length_append, List.length_cons, this, h x (by simp), Nat.add_mul]
    omega
theorem flatten_part {s : Nat} : ∀ {xs : List (List Value)} {k : Nat} {x : List Value}, (∀ x ∈ xs, x.length = s) → xs[k]? = some x → (xs.flatten.drop (k * s)).take s = x
  | [], _, _, _, h => by simp at h
  | y :: r, 0, x, hl, h => by
    simp only [List.getElem?_cons_zero, Option.some.injEq] at h
    subst h
    have := hl y (by simp)
    simp [List.flatten_cons, ← this]
  | y :: r, k + 1, x, hl, h => by
    have hy := hl y (by simp)
    have := flatten_part (xs := r) (k := k) (x := x) (fun z hz => hl z (by simp [hz])) (by simpa using h)
    rw [List.flatten_cons, Nat.add_mul, Nat.one_mul, Nat.add_comm, List.drop_append, hy, List.drop_eq_nil_of_le (by omega), List.nil_append, show s + k * s - s = k * s by omega]
    exact this
/-- An element. -/
theorem SV.part {s : Nat} {g : Nat} {cur : List Value} {cap : Nat} {xs : List (List Value)} (h : SV.ok s (some (g, cur, cap)) xs) {k : Nat} {x : List Value} (hx : xs[k]? = some x) : Part cur (0 + k * s) s x := by
  obtain ⟨h1, h2, _, h4, h5⟩ := h
  have hk : k < xs.length := (List.getElem?_eq_some_iff.1 hx).1
  have hf := flatten_part h5 hx
  rw [← h4] at hf
  have hle : (k + 1) * s ≤ xs.length * s := Nat.mul_le_mul_right s hk
  rw [Nat.add_mul, Nat.one_mul] at hle
  refine ⟨?_, h5 x (List.mem_of_getElem? hx)⟩
  rw [Nat.zero_add, ← hf, List.drop_take, List.take_take]
  congr 1
  omega

/-- A slice's element type: its zero value, cells and bytes. -/
def Elt (P : Program) (t e : TypeId) (z : Value) (s bytes : Nat) : Prop :=
  P.underlying t = some (.slice e) ∧ (P.info? e).map (fun i => (i.zero, i.size, i.bytes)) = some (some z, s, bytes) ∧ z.cells.size = s ∧ 0 < s

section
variable {P : Program} {w0 : World} {M : List Nat} {N : Nat} {D : Dfr} {T : TL} {L : HL} {Q : Exit → Act → World → Prop}

theorem St.regrow {w w' : World} {row : Option Nat} {i g : Nat} {o' : Obj} (h : St w0 M w L) (hg : w.grownBy w' row) (hrow : ∀ r, row = some r → ∃ o, look L i = some (r, o)) (hb : w'.heap[g]? = some o') (hw : row = some g ∨ g = w.heap.size) :
    St w0 M w' ((i, (g, o')) :: L) := by
  have hrow0 : ∀ r, row = some r → w0.heap.size ≤ r ∨ r ∈ M := fun r hr => by obtain ⟨o, ho⟩ := hrow r hr; exact (h.known i r o ho).2
  refine ⟨hg.os.trans h.os, hg.tape.trans h.tape, hg.output.trans h.output, Nat.le_trans h.size hg.size, fun k hk hM => ?_, fun j c p hl => ?_, fun j k c p d q h1 h2 hne => ?_⟩
  · rw [hg.block k (Nat.lt_of_lt_of_le hk h.size) (fun e => by rcases hrow0 k e.symm with h1 | h1; omega; exact hM h1)]
    exact h.old k hk hM
  · rw [look_cons] at hl
    split at hl
    · cases hl
      refine ⟨hb, ?_⟩
      rcases hw with hw | hw
      · exact hrow0 g hw
      · exact .inl (by rw [hw]; exact h.size)
    · rename_i hij
      obtain ⟨h1, h2⟩ := h.known j c p hl
      refine ⟨(hg.block c (h.lt hl) fun e => ?_).trans h1, h2⟩
      obtain ⟨o, ho⟩ := hrow c e.symm
      exact h.apart j i c p c o hl ho (Ne.symm hij) rfl
  · have hgne : ∀ j c p, look L j = some (c, p) → i ≠ j → g ≠ c := fun j c p hl hij => by
      rcases hw with hw | hw
      · obtain ⟨o, ho⟩ := hrow g hw
        exact h.apart i j g o c p ho hl hij
      · have := h.lt hl; omega
    rw [look_cons] at h1 h2
    split at h1
    · cases h1
      split at h2
      · omega
      · rename_i e _; subst e; exact hgne _ _ _ h2 hne
    · split at h2
      · rename_i e; subst e; cases h2; exact Ne.symm (hgne _ _ _ h1 (Ne.symm hne))
      · exact h.apart j k c p d q h1 h2 hne

/-- append(s, x): of a slice of one's own, by one that has just been built. -/
theorem s_append (i j : Nat) (s : SV) (xs : List (List Value)) (x : List Value) {d : Nat} {a b : Operand} {t e : TypeId} {z : Value} {sz bytes : Nat} {by' : Nat} {t' : TypeId} {p : String} {af : Array Edge} {g : Option (Nat × Bool)} {K : TL → HL → Prop} {Q : Exit → Act → World → Prop}
    (hE : Elt P t e z sz bytes) (hN : Nat.blt d N = true) (hs : ev T a = some (s.v xs.length)) (hok : s.ok sz xs) (hl : SubL (s.l i e) L) (hy : ev T b = some (.slice (some ⟨by', 0, none⟩) 1 1)) (hyl : look L j = some (by', .cells x.toArray e (0, 0))) (hx : x.length = sz) (h1 : x.all (·.oneCell') = true)
    (hlen : (xs.length + 1) * bytes ≤ 140737488355328) (hlen2 : xs.length + 1 ≤ maxLen)
    (k : ∀ g cur cap, SV.ok sz (some (g, cur, cap)) (xs ++ [x]) → K ((d, .slice (some ⟨g, 0, none⟩) (xs.length + 1) cap) :: T) ((i, (g, .cells cur.toArray e (0, 0))) :: L)) :
    Step P w0 M N D { dst := some d, op := .call { callee := .builtin .append, args := #[a, b], argTypes := #[t, t] }, type := t', pos := p, after := af, guard := g } T L K Q := by
  intro ac w ha hw
  obtain ⟨hu, hi, hz, hsz⟩ := hE
  obtain ⟨inf, hinf, hpr⟩ := Option.map_eq_some_iff.1 hi
  have q1 : inf.zero = some z := congrArg (·.1) hpr
  have q2 : inf.size = sz := congrArg (·.2.1) hpr
  have q3 : inf.bytes = bytes := congrArg (·.2.2) hpr
  have hown : w.ownsRow 0 e sz (s.v xs.length) xs.length xs.flatten := by
    cases s with
    | none => simp only [SV.ok] at hok; subst hok; exact ⟨by simp, .inl ⟨rfl, rfl⟩⟩
    | some q =>
      obtain ⟨g, cur, cap⟩ := q
      obtain ⟨o1, o2, o3, o4, o5⟩ := hok
      exact ⟨flatten_len o5, .inr ⟨g, cap, cur.toArray, rfl, Nat.zero_le _, (hw.known i g _ (hl i _ (by simp [look]))).1, o2, o3, by simpa using o1, by simpa using o4⟩⟩
  have hyw := (hw.known j by' _ hyl).1
  have hcell : ∀ (m : Nat) (u : Value), x[m]? = some u → w.cell? ((⟨by', 0, none⟩ : Addr).add m) = some u := fun m u hm => by
    rw [Addr.add_none]
    simp [World.cell?, hyw, hm]
  obtain ⟨v', w', hrun, hown', hgrow, _, hblk⟩ := run_append_own_at (P := P) (w := w) 0 t t' e inf z sz bytes hu hinf q1 q2 q3 hz hsz (s.v xs.length) xs.length xs.flatten hown ⟨by', 0, none⟩ 1 1 x (by omega) hcell (fun u hu => List.all_eq_true.1 h1 u hu) hlen2 hlen (Nat.zero_le _)
  refine wpIn_of_wp (fun c h => by cases h) ?_
  unfold Oper.wp
  have hr : (execOp ac.eval { dst := some d, op := .call { callee := .builtin .append, args := #[a, b], argTypes := #[t, t] }, type := t', pos := p, after := af, guard := g }).run P w = .ok (.value v') w' := by
    simp [execOp, resolve, invoke, builtin, ha.ev hs, ha.ev hy, hrun, Result.andThen]
  rw [hr]
  obtain ⟨hfl, hcase⟩ := hown'
  rcases hcase with ⟨_, hz0⟩ | ⟨g', cap, cur, hv', _, hg', c1, c2, c3, c4⟩
  · omega
  · subst hv'
    have hxs5 : ∀ y ∈ xs, y.length = sz := by
      cases s with
      | none => simp only [SV.ok] at hok; subst hok; simp
      | some q => exact hok.2.2.2.2
    have hok' : SV.ok sz (some (g', cur.toList, cap)) (xs ++ [x]) := by
      refine ⟨by simpa using c3, by simpa using c1, c2, ?_, fun y hy' => ?_⟩
      · rw [List.length_append, List.length_singleton, c4]; simp
      · rcases List.mem_append.1 hy' with hm | hm
        · exact hxs5 y hm
        · rw [List.mem_singleton.1 hm]; exact hx
    refine ⟨_, _, ha.put (by simpa [Nat.blt_eq] using hN) _, hw.regrow (i := i) (g := g') (o' := .cells cur.toList.toArray e (0, 0)) hgrow (fun r hr' => ?_) (by simpa using hg') ?_, k g' cur.toList cap hok'⟩
    · cases s with
      | none => simp [Value.ownBlock] at hr'
      | some q =>
        obtain ⟨g0, cur0, cap0⟩ := q
        simp only [Value.ownBlock, Option.some.injEq] at hr'
        subst hr'
        exact ⟨.cells cur0.toArray e (0, 0), hl i _ (by simp [look])⟩
    · rcases hblk with hb | hb
      · left; rw [← hb]; rfl
      · right; simpa [Value.ownBlock] using hb

/-- []T{x}: by a law of its own. -/
theorem s_buildSl (i : Nat) {d : Nat} {ps : Array (Nat × Operand)} {vs : List (Nat × Value)} {l : List Value} {t e : TypeId} {len : Nat} {t' : TypeId} {p : String} {af : Array Edge} {g : Option (Nat × Bool)} {K : TL → HL → Prop} {Q : Exit → Act → World → Prop}
    (hN : Nat.blt d N = true) (hx : evs T (ps.toList.map (·.2)) = some (vs.map (·.2))) (hi : ps.toList.map (·.1) = vs.map (·.1))
    (h : ∀ w, (Instr.buildSlice t len vs.toArray).run P w = .ok (.slice (some ⟨w.heap.size, 0, none⟩) len len) (w.alloc (.cells l.toArray e)))
    (k : ∀ b, K ((d, .slice (some ⟨b, 0, none⟩) len len) :: T) ((i, (b, .cells l.toArray e (0, 0))) :: L)) :
    Step P w0 M N D { dst := some d, op := .buildSlice t len ps, type := t', pos := p, after := af, guard := g } T L K Q := by
  intro a w ha hw
  have eq : ps.map (fun x => (x.1, a.eval x.2)) = vs.toArray := by
    have h1 := ha.evs hx
    apply Array.ext'
    simp only [Array.toList_map]
    rw [List.map_map] at h1
    apply List.ext_getElem?
    intro j
    have h2 := congrArg (·[j]?) h1
    have h3 := congrArg (·[j]?) hi
    simp only [List.getElem?_map] at h2 h3 ⊢
    cases hq : ps.toList[j]? <;> cases hr : vs[j]? <;> simp_all
  have hr : (execOp a.eval { dst := some d, op := .buildSlice t len ps, type := t', pos := p, after := af, guard := g }).run P w = .ok (.value (.slice (some ⟨w.heap.size, 0, none⟩) len len)) (w.alloc (.cells l.toArray e)) := by
    simp only [execOp]
    rw [show (ps.map fun x => match x with | (i, x) => (i, a.eval x)) = vs.toArray from eq]
    simp [h w]
  refine wpIn_of_wp (fun c h => by cases h) ?_
  unfold Oper.wp
  rw [hr]
  exact ⟨_, _, ha.put (by simpa [Nat.blt_eq] using hN) _, hw.alloc i _, k w.heap.size⟩
end
end Go.NP

/-
  A deferred closure that would recover, in a call that does not panic.
-/
namespace Go.NP
open Go Go.RowKit
section
variable {P : Program} {w0 : World} {M : List Nat} {N : Nat} {D : Dfr} {T : TL} {L : HL} {Q : Exit → Act → World → Prop}

theorem cw_defer {id t : Nat} {fn : Fn} {cs : Array Operand} {ty1 ty2 : TypeId} {p1 p2 : String} {a1 a2 : Array Edge} {ats : Array TypeId} {vs : List Value} {y : Code} (hN : Nat.blt t N = true) (hv : evs T cs.toList = some vs)
    {D : List Deferred} (k : CW P w0 M N ⟨{ target := .fn fn vs.toArray, args := #[] } :: D, none⟩ y ((t, .func fn #[] vs.toArray) :: T) L Q) :
    CW P w0 M N ⟨D, none⟩ (.seq (.region id [{ dst := some t, op := .makeFunc fn #[] cs, type := ty1, pos := p1, after := a1, guard := none }, { dst := none, op := .defer { callee := .value (.tmp t), args := #[], argTypes := ats }, type := ty2, pos := p2, after := a2, guard := none }].toArray false) y) T L Q := by
  intro a w ha hw
  refine wpIn_seq (wpIn_region ?_)
  have ht : t < N := by simpa [Nat.blt_eq] using hN
  have e2 : cs.map a.eval = vs.toArray := by rw [← ha.evs hv]; simp [← Array.toList_map]
  have ha' := ha.put ht (.func fn #[] vs.toArray)
  have ht' : (a.put (some t) (.func fn #[] vs.toArray)).eval (.tmp t) = .func fn #[] vs.toArray := ha'.ev (by simp [ev, look])
  have r1 : (execOp a.eval { dst := some t, op := .makeFunc fn #[] cs, type := ty1, pos := p1, after := a1, guard := none }).run P w = .ok (.value (.func fn #[] vs.toArray)) w := by
    simp [execOp, Instr.makeFunc, e2]
  have r2 : (execOp (a.put (some t) (.func fn #[] vs.toArray)).eval { dst := none, op := .defer { callee := .value (.tmp t), args := #[], argTypes := ats }, type := ty2, pos := p2, after := a2, guard := none }).run P w = .ok (.defer { target := .fn fn vs.toArray, args := #[] }) w := by
    simp [execOp, resolve, ht', Deferred.ofValue]
  simp only [List.size_toArray, List.length_cons, List.length_nil, Nat.reduceAdd, List.range_succ, List.range_zero, List.nil_append, List.singleton_append, wpOpsIn, List.getElem?_toArray, List.getElem?_cons_zero, List.getElem?_cons_succ, Region.wanted, if_true]
  refine ⟨fun _ _ => trivial, ?_⟩
  rw [show (fw _).round = none from rfl, Oper.semAt_none, r1]
  simp only [Oper.uponIn]
  refine ⟨fun _ _ => trivial, ?_⟩
  rw [show (fw _).round = none from rfl, Oper.semAt_none, r2]
  exact k _ w ⟨ha'.size, by show _ :: (a.put _ _).defers = _; rw [ha'.defers], ha'.tm⟩ hw

theorem calls_ofD {f : FuncId} {fn : Func} {c : Code} {args : List Value} {w : World} {R : Ending → World → Prop} {M : List Nat} {L : HL} (hf : P.funcs[f]? = some fn) (hb : fn.body = some c) (hn : fn.ntmps = N) (hl : Nat.ble args.length N = true)
    (hw : St w M w L) (h : CW P w M N D0 c (enum 0 args) L (bodyPostD P fn R)) : Calls P f args.toArray w R := by
  have hl' : args.length ≤ N := by simpa using hl
  refine calls_of_wp_defers hf hb (wpIn_wide.1 (h _ w ⟨?_, rfl, fun k v hv => ?_⟩ hw))
  · simp only [List.size_toArray, hn, Array.size_append, Array.size_replicate]; omega
  · obtain ⟨_, h2⟩ := look_enum args 0 k v hv
    simp only [Nat.sub_zero] at h2
    have hk : k < args.length := (List.getElem?_eq_some_iff.1 h2).1
    rw [Array.getElem?_append_left (by simpa using hk)]
    simpa using h2

/-- The closure that finds nothing to recover. -/
def Idle (P : Program) (f : FuncId) (args : Array Value) : Prop := ∀ w, CallsD P f args .returning w fun e u' w' => e = .returned (.tuple #[]) ∧ u' = .returning ∧ Below w.heap.size w w'

theorem at_retD {fn : Func} {R : Ending → World → Prop} {rs : List ResultVar} {vs : List Value} {f : FuncId} {cs : Array Value} (hr : fn.results.toList = rs) (h : RVs P T L rs vs) (he : Ent P f) (hi : Idle P f cs) (hR : ∀ w, St w0 M w L → R (.returned (tup vs)) w) :
    At w0 M N ⟨[{ target := .fn (.func f) cs, args := #[] }], none⟩ (bodyPostD P fn R) .ret T L := by
  intro a w ha hw
  show Leaves P fn a.tmps R a.defers .returning w
  rw [ha.defers]
  refine ⟨by simp, .func f, cs, f, cs, rfl, ?_, ?_⟩
  · have h1 : invoke (.fn (.func f) cs) #[] = callFunc f (#[] ++ cs) := rfl
    rw [h1, run_enter he, Array.empty_append]
  have := hi w
  intro c cs' hc
  obtain ⟨e, u', w', fr, ⟨rfl, rfl, hb⟩, rest⟩ := this c cs' hc
  have hw' := hw.grow hb
  exact ⟨.returned (.tuple #[]), .returning, _, fr, ⟨tup vs, run_results ha hw' (hr ▸ h), hR _ hw'⟩, rest⟩

theorem run_equalIn_nil {t : TypeId} {ms : Array (String × TypeId)} (hI : P.underlying t = some (.interface ms)) (d : Nat) (w : World) : (Op.equalIn (d + 1) t .nilIface .nilIface).run P w = .ok true w := by
  simp [Op.equalIn, run_underlying hI]
theorem run_neq_nil {t : TypeId} {ms : Array (String × TypeId)} (hI : P.underlying t = some (.interface ms)) (w : World) : (binOp .neq t .nilIface .nilIface).run P w = .ok (.bool false) w := by
  show (do pure (.bool (!(← Op.equal t .nilIface .nilIface))) : Sem Value).run P w = _
  have h2 : (Op.equal t .nilIface .nilIface).run P w = .ok true w := run_equalIn_nil hI 9999 w
  rw [Sem.run_bind, h2]; rfl

theorem idle_of {f i0 i1 n : Nat} {fn : Func} {X : Code} {t t' t'' r0 r1 r2 : TypeId} {ms : Array (String × TypeId)} {p0 p1 p2 p3 : String} {a0 a1 a2 a3 : Array Edge} {args : Array Value} (hf : P.funcs[f]? = some fn) (hI : P.underlying t = some (.interface ms))
    (hb : fn.body = some (.seq (.region i0 #[{ dst := some (n + 1), op := .call { callee := .builtin .recover, args := #[], argTypes := #[] }, type := r0, pos := p0, after := a0, guard := none }, { dst := some n, op := .assign (.tmp (n + 1)), type := r1, pos := p1, after := a1, guard := none }] false)
      (.seq (.region i1 #[{ dst := some (n + 2), op := .move (.tmp n), type := r2, pos := p2, after := a2, guard := none }, { dst := some (n + 3), op := .binOp .neq t (.tmp (n + 2)) (.const .nilIface) t', type := t'', pos := p3, after := a3, guard := none }] false) (.cond (.tmp (n + 3)) X .skip))))
    (hres : fn.results = #[]) (hn : n + 3 < fn.ntmps) (ha : args.size ≤ fn.ntmps) : Idle P f args := by
  intro w
  refine callsD_of_wpS hf hb fun c₀ cs hu => ?_
  have hsz : (args ++ Array.replicate (fn.ntmps - args.size) undef).size = fn.ntmps := by simp; omega
  generalize args ++ Array.replicate (fn.ntmps - args.size) undef = tm at hsz
  apply wpS_seq
  apply wpS_region
  have e1 : (((tm.setIfInBounds (n + 1) Value.nilIface).setIfInBounds n Value.nilIface).getD n undef) = .nilIface := by simp [hsz]; omega
  simp only [wpOpsS, List.size_toArray, List.length_cons, List.length_nil, Nat.reduceAdd, List.range_succ, List.range_zero, List.nil_append, List.singleton_append, List.getElem?_toArray, List.getElem?_cons_zero, List.getElem?_cons_succ, Region.wanted, if_true, execOp, resolve, invoke, builtin, Sem.run_bind, Sem.run_pure, Result.andThen_ok, recoverD, hu, List.map_toArray, List.map_nil, Act.put, Oper.upon, Exit.thenS]
  have e0 : Act.eval { tmps := tm.setIfInBounds (n + 1) Value.nilIface, defers := [] } (.tmp (n + 1)) = .nilIface := by simp [Act.eval, hsz]; omega
  rw [e0]
  refine wpS_of_wp ?_
  have hfr : Fr fn.ntmps D0 { tmps := (tm.setIfInBounds (n + 1) Value.nilIface).setIfInBounds n Value.nilIface, defers := [] } [(n, .nilIface)] := by
    refine ⟨by simp [hsz], rfl, fun k v hv => ?_⟩
    rw [look_cons] at hv
    split at hv
    · rename_i e
      have hk : k < tm.size := by omega
      subst e; cases hv; simp [hk]
    · simp [look] at hv
  have hq : ∀ g, Quiet P w [] fn.ntmps D0 { dst := some (n + 3), op := .binOp .neq t (.tmp (n + 2)) (.const .nilIface) t', type := t'', pos := p3, after := a3, guard := g } [(n + 2, .nilIface), (n, .nilIface)] [] (.bool false) := fun g =>
    q_run fun a w' ha _ => by
      have h1 : a.eval (.tmp (n + 2)) = .nilIface := ha.ev (by simp [ev, look_cons])
      have hg : (eqGuard .neq t (.tmp (n + 2)) (.const .nilIface) .nilIface .nilIface).run P w' = .ok () w' := by simp [eqGuard]
      have h2 : a.eval (.const .nilIface) = .nilIface := rfl
      simp only [execOp, h1, h2, Sem.run_bind, hg, run_neq_nil hI, Result.andThen_ok, Sem.run_pure]
  refine wpIn_wide.1 ((?_ : CW P w [] fn.ntmps D0 _ [(n, .nilIface)] [] _) _ w hfr (St.start w))
  refine cw_sr ?_
  refine steps_q (by simp [Nat.blt_eq]; omega) (q_move (v := .nilIface) (by simp [ev, look_cons])) ?_
  refine steps_q (by simp [Nat.blt_eq]; omega) (hq _) ?_
  refine steps_nil ?_
  refine cw_cond false (by simp [ev, look_cons]) (fun h => by cases h) (fun _ => ?_)
  refine cw_skip fun a w' ha hw => ?_
  refine ⟨ha.defers, .returning, ?_, .tuple #[], results_none hres _ _ _, rfl, rfl, ?_⟩
  · cases c₀
    simp_all
  · exact hw.below
end
end Go.NP

/-
  Integers of 512 bits as eight limbs.
-/
namespace Go.NP
open Go Go.RowKit

def L8 (g : Nat → Int) : List Value := [.int .u64 (g 0), .int .u64 (g 1), .int .u64 (g 2), .int .u64 (g 3), .int .u64 (g 4), .int .u64 (g 5), .int .u64 (g 6), .int .u64 (g 7)]
def upd (g : Nat → Int) (k : Nat) (x : Int) : Nat → Int := fun j => if j = k then x else g j

theorem L8_get (g : Nat → Int) {i : Int} (h0 : 0 ≤ i) (h1 : i < 8) : (L8 g)[0 + i.toNat * 1]? = some (.int .u64 (g i.toNat)) := by
  have : i = 0 ∨ i = 1 ∨ i = 2 ∨ i = 3 ∨ i = 4 ∨ i = 5 ∨ i = 6 ∨ i = 7 := by omega
  rcases this with rfl | rfl | rfl | rfl | rfl | rfl | rfl | rfl <;> rfl
theorem L8_fit (g : Nat → Int) {i : Int} (h0 : 0 ≤ i) (h1 : i < 8) : 0 + i.toNat * 1 + 1 ≤ (L8 g).length := by simp [L8]; omega
theorem L8_wr (g : Nat → Int) {i : Int} (h0 : 0 ≤ i) (h1 : i < 8) (x : Int) : wr (L8 g) (0 + i.toNat * 1) [.int .u64 x] = L8 (upd g i.toNat x) := by
  have : i = 0 ∨ i = 1 ∨ i = 2 ∨ i = 3 ∨ i = 4 ∨ i = 5 ∨ i = 6 ∨ i = 7 := by omega
  rcases this with rfl | rfl | rfl | rfl | rfl | rfl | rfl | rfl <;> rfl
theorem L8_congr {g g' : Nat → Int} (h : ∀ j, j < 8 → g j = g' j) : L8 g = L8 g' := by
  simp only [L8, h 0 (by omega), h 1 (by omega), h 2 (by omega), h 3 (by omega), h 4 (by omega), h 5 (by omega), h 6 (by omega), h 7 (by omega)]
theorem L8_inj {g g' : Nat → Int} (h : L8 g = L8 g') : ∀ j, j < 8 → g j = g' j := by
  simp only [L8, List.cons.injEq, Value.int.injEq, true_and, and_true] at h
  intro j hj
  have : j = 0 ∨ j = 1 ∨ j = 2 ∨ j = 3 ∨ j = 4 ∨ j = 5 ∨ j = 6 ∨ j = 7 := by omega
  obtain ⟨h0, h1, h2, h3, h4, h5, h6, h7⟩ := h
  rcases this with rfl | rfl | rfl | rfl | rfl | rfl | rfl | rfl <;> assumption

/-- The value of eight limbs, without a sign. -/
def B : Int := 18446744073709551616
def val : Nat → (Nat → Int) → Int
  | 0, _ => 0
  | n + 1, g => val n g + g n * B ^ n
/-- All limbs are one. -/
def Lm (g : Nat → Int) : Prop := ∀ j, j < 8 → 0 ≤ g j ∧ g j < B
theorem B_pos : 0 < B := by decide
theorem Bpow_pos (n : Nat) : 0 < B ^ n := Int.pow_pos B_pos
theorem val_bounds {g : Nat → Int} : ∀ n, (∀ j, j < n → 0 ≤ g j ∧ g j < B) → 0 ≤ val n g ∧ val n g < B ^ n
  | 0, _ => ⟨Int.le_refl 0, by simp [val]⟩
  | n + 1, h => by
    obtain ⟨h1, h2⟩ := val_bounds n (fun j hj => h j (by omega))
    obtain ⟨h3, h4⟩ := h n (by omega)
    simp only [val, Int.pow_succ]
    have hp := Bpow_pos n
    have e1 : 0 ≤ g n * B ^ n := Int.mul_nonneg h3 (Int.le_of_lt hp)
    have e2 : g n * B ^ n ≤ (B - 1) * B ^ n := Int.mul_le_mul_of_nonneg_right (by omega) (Int.le_of_lt hp)
    have e3 : (B - 1) * B ^ n = B ^ n * B - B ^ n := by rw [Int.sub_mul, Int.one_mul, Int.mul_comm]
    omega
theorem val_congr {g g' : Nat → Int} : ∀ n, (∀ j, j < n → g j = g' j) → val n g = val n g'
  | 0, _ => rfl
  | n + 1, h => by simp only [val, val_congr n (fun j hj => h j (by omega)), h n (by omega)]
/-- Limbs are told by their value. -/
theorem val_inj {g g' : Nat → Int} : ∀ n, (∀ j, j < n → 0 ≤ g j ∧ g j < B) → (∀ j, j < n → 0 ≤ g' j ∧ g' j < B) → val n g = val n g' → ∀ j, j < n → g j = g' j
  | 0, _, _, _, j, hj => by omega
  | n + 1, h, h', he, j, hj => by
    have b1 := val_bounds n (fun j hj => h j (by omega))
    have b2 := val_bounds n (fun j hj => h' j (by omega))
    simp only [val] at he
    have hp := Bpow_pos n
    have m1 : (val n g + g n * B ^ n) % B ^ n = val n g := by rw [Int.add_mul_emod_self_right]; exact Int.emod_eq_of_lt b1.1 b1.2
    have m2 : (val n g' + g' n * B ^ n) % B ^ n = val n g' := by rw [Int.add_mul_emod_self_right]; exact Int.emod_eq_of_lt b2.1 b2.2
    have e1 : val n g = val n g' := by rw [← m1, ← m2, he]
    have e2 : g n = g' n := by
      have : g n * B ^ n = g' n * B ^ n := by omega
      exact Int.eq_of_mul_eq_mul_right (Int.ne_of_gt hp) this
    by_cases hjn : j = n
    · subst hjn; exact e2
    · exact val_inj n (fun j hj => h j (by omega)) (fun j hj => h' j (by omega)) e1 j (by omega)

/-- The limbs of a number, two's complement. -/
def lim (n : Int) (i : Nat) : Int := n / B ^ i % B
theorem lim_lm (n : Int) (j : Nat) : 0 ≤ lim n j ∧ lim n j < B := ⟨Int.emod_nonneg _ (by decide), Int.emod_lt_of_pos _ B_pos⟩
theorem val_lim (n : Int) : ∀ k, val k (lim n) = n % B ^ k
  | 0 => by simp [val]
  | k + 1 => by
    simp only [val, val_lim n k, lim]
    have hp := Bpow_pos k
    have h1 := Int.emod_add_mul_ediv n (B ^ k)
    have h2 := Int.emod_add_mul_ediv (n / B ^ k) B
    have h3 : n = n % B ^ k + (n / B ^ k % B) * B ^ k + B ^ (k + 1) * (n / B ^ k / B) := by
      have e : B ^ k * (n / B ^ k) = B ^ k * (n / B ^ k % B) + B ^ k * (B * (n / B ^ k / B)) := by rw [← Int.mul_add, h2]
      have e2 : B ^ (k + 1) * (n / B ^ k / B) = B ^ k * (B * (n / B ^ k / B)) := by rw [Int.pow_succ, Int.mul_assoc]
      rw [e2, Int.mul_comm (n / B ^ k % B)]
      omega
    have b1 : 0 ≤ n % B ^ k ∧ n % B ^ k < B ^ k := ⟨Int.emod_nonneg _ (Int.ne_of_gt hp), Int.emod_lt_of_pos _ hp⟩
    have b2 := lim_lm n k
    simp only [lim] at b2
    have b3 : 0 ≤ (n / B ^ k % B) * B ^ k := Int.mul_nonneg b2.1 (Int.le_of_lt hp)
    have b4 : (n / B ^ k % B) * B ^ k ≤ (B - 1) * B ^ k := Int.mul_le_mul_of_nonneg_right (by omega) (Int.le_of_lt hp)
    have b5 : (B - 1) * B ^ k = B ^ (k + 1) - B ^ k := by rw [Int.sub_mul, Int.one_mul, Int.pow_succ, Int.mul_comm]
    conv => rhs; rw [h3]
    rw [Int.add_mul_emod_self_left]
    exact (Int.emod_eq_of_lt (by omega) (by omega)).symm

/-- A number of 512 bits. -/
def M512 : Int := B ^ 8
def Fits (n : Int) : Prop := -(M512 / 2) ≤ n ∧ n < M512 / 2
def Wl (n : Int) : List Value := L8 (lim n)
theorem Wl_length (n : Int) : (Wl n).length = 8 := rfl
theorem Wl_of {g : Nat → Int} {n : Int} (hg : Lm g) (h : val 8 g = n % M512) : L8 g = Wl n :=
  L8_congr (val_inj 8 hg (fun j _ => lim_lm n j) (by rw [val_lim, h]; rfl))
theorem M512_eq : M512 = 13407807929942597099574024998205846127479365820592393377723561443721764030073546976801874298166903427690031858186486050853753882811946569946433649006084096 := by decide +kernel
theorem Wl_inj {m n : Int} (hm : Fits m) (hn : Fits n) (h : Wl m = Wl n) : m = n := by
  have h1 := val_congr 8 (L8_inj h)
  rw [val_lim, val_lim] at h1
  have e : m % M512 = n % M512 := h1
  unfold Fits at hm hn
  rw [M512_eq] at *
  omega
end Go.NP

/-
  Whole numbers of 64 bits without a sign.
-/
namespace Go.NP
open Go Go.RowKit

theorem shr63 {a : Int} (_h0 : 0 ≤ a) : binI .shr .u64 a .u64 63 = some (.int .u64 (a / 9223372036854775808)) := by
  have e : (2 : Int) ^ (min (63 : Int).toNat IntKind.u64.bits) = 9223372036854775808 := by decide
  simp only [binI, e]
  rw [if_pos (by decide), Int.fdiv_eq_ediv_of_nonneg _ (by omega)]
theorem shr32 {a : Int} (_h0 : 0 ≤ a) : binI .shr .u64 a .u64 32 = some (.int .u64 (a / 4294967296)) := by
  have e : (2 : Int) ^ (min (32 : Int).toNat IntKind.u64.bits) = 4294967296 := by decide
  simp only [binI, e]
  rw [if_pos (by decide), Int.fdiv_eq_ediv_of_nonneg _ (by omega)]
theorem addu {a b : Int} (h0 : 0 ≤ a + b) (h1 : a + b ≤ 18446744073709551615) : binI .add .u64 a .u64 b = some (.int .u64 (a + b)) := by
  simp only [binI, if_true, IntWalk.u64_in _ ⟨h0, h1⟩]
theorem mulu {a b : Int} (h0 : 0 ≤ a * b) (h1 : a * b ≤ 18446744073709551615) : binI .mul .u64 a .u64 b = some (.int .u64 (a * b)) := by
  simp only [binI, if_true, IntWalk.u64_in _ ⟨h0, h1⟩]
theorem muluw {a b : Int} : binI .mul .u64 a .u64 b = some (.int .u64 (a * b % 18446744073709551616)) := by
  simp only [binI, if_true, IntKind.wrap_u64]
theorem bv_toNat {a : Int} (h0 : 0 ≤ a) (h1 : a < 18446744073709551616) : (BitVec.ofInt 64 a).toNat = a.toNat := by
  rw [BitVec.toNat_ofInt]
  congr 1
  exact Int.emod_eq_of_lt h0 h1
theorem and32 {a : Int} (h0 : 0 ≤ a) (h1 : a < 18446744073709551616) : binI .and .u64 a .u64 4294967295 = some (.int .u64 (a % 4294967296)) := by
  simp only [binI, if_true]
  have e : (BitVec.ofInt IntKind.u64.bits a &&& BitVec.ofInt IntKind.u64.bits 4294967295).toNat = a.toNat % 4294967296 := by
    show (BitVec.ofInt 64 a &&& BitVec.ofInt 64 4294967295).toNat = _
    rw [BitVec.toNat_and, bv_toNat h0 h1, bv_toNat (by decide) (by decide)]
    exact Nat.and_two_pow_sub_one_eq_mod a.toNat 32
  rw [e, IntKind.wrap_u64]
  congr 2
  omega
theorem com64 {a : Int} (h0 : 0 ≤ a) (h1 : a < 18446744073709551616) : binI .xor .u64 (if IntKind.u64.signed then -1 else IntKind.u64.max) .u64 a = some (.int .u64 (18446744073709551615 - a)) := by
  have em : (if IntKind.u64.signed then -1 else IntKind.u64.max) = (18446744073709551615 : Int) := by decide
  simp only [binI, if_true, em]
  have e : (BitVec.ofInt IntKind.u64.bits 18446744073709551615 ^^^ BitVec.ofInt IntKind.u64.bits a).toNat = 18446744073709551615 - a.toNat := by
    show (BitVec.ofInt 64 18446744073709551615 ^^^ BitVec.ofInt 64 a).toNat = _
    have h : BitVec.ofInt 64 18446744073709551615 = BitVec.allOnes 64 := by decide
    rw [h, BitVec.allOnes_xor, BitVec.toNat_not, bv_toNat h0 h1]
  rw [e, IntKind.wrap_u64]
  congr 2
  omega

/-- The model's own answer for math/bits.Add64. -/
def addEntry64 : Array Value → Sem Value := fun args => do
  let (x, y, c) ← Extern.MathBitsCarry.three "Add64" args
  pure (Extern.MathBitsCarry.pair ((x + y + c) % Extern.MathBitsCarry.m64) ((x + y + c) / Extern.MathBitsCarry.m64))
theorem run_addEntry64 {P : Program} {x y c : Int} (hx : 0 ≤ x) (hy : 0 ≤ y) (h0 : 0 ≤ c) (h1 : c ≤ 1) (w : World) :
    (addEntry64 #[.int .u64 x, .int .u64 y, .int .u64 c]).run P w = .ok (.tuple #[.int .u64 ((x + y + c) % 18446744073709551616), .int .u64 ((x + y + c) / 18446744073709551616)]) w := by
  obtain ⟨x, rfl⟩ := Int.eq_ofNat_of_zero_le hx
  obtain ⟨y, rfl⟩ := Int.eq_ofNat_of_zero_le hy
  have : c = 0 ∨ c = 1 := by omega
  rcases this with rfl | rfl <;> rfl
end Go.NP

/-
  Sums of limbs with what is carried; what stands against them: plain arithmetic.
-/
namespace Go.NP
open Go Go.RowKit

theorem val_split (g : Nat → Int) (m : Nat) : ∀ n, m ≤ n → ∃ k, val n g = val m g + B ^ m * k
  | 0, h => ⟨0, by have : m = 0 := by omega
                   subst this; simp⟩
  | n + 1, h => by
    by_cases hmn : m = n + 1
    · subst hmn; exact ⟨0, by simp⟩
    · obtain ⟨k, hk⟩ := val_split g m n (by omega)
      obtain ⟨d, rfl⟩ : ∃ d, n = m + d := ⟨n - m, by omega⟩
      refine ⟨k + g (m + d) * B ^ d, ?_⟩
      simp only [val, hk, Int.pow_add]
      rw [Int.mul_add, Int.add_assoc]
      congr 2
      rw [Int.mul_left_comm]
theorem lim_high (x k : Int) (i : Nat) : lim (x + B ^ (i + 1) * k) i = lim x i := by
  simp only [lim, Int.pow_succ]
  rw [Int.mul_assoc, Int.add_mul_ediv_left _ _ (Int.ne_of_gt (Bpow_pos i)), Int.add_mul_emod_self_left]

/-- What is carried into limb i. -/
def car (a b : Nat → Int) (c : Int) (i : Nat) : Int := (val i a + val i b + c) / B ^ i
theorem car_zero (a b : Nat → Int) (c : Int) : car a b c 0 = c := by simp [car, val]
theorem car_step (a b : Nat → Int) (c : Int) (i : Nat) : (val (i + 1) a + val (i + 1) b + c) / B ^ i = a i + b i + car a b c i := by
  simp only [car, val]
  have e : val i a + a i * B ^ i + (val i b + b i * B ^ i) + c = (val i a + val i b + c) + B ^ i * (a i + b i) := by
    rw [Int.mul_add, Int.mul_comm (B ^ i) (a i), Int.mul_comm (B ^ i) (b i)]; omega
  rw [e, Int.add_mul_ediv_left _ _ (Int.ne_of_gt (Bpow_pos i))]
  omega
theorem car_succ (a b : Nat → Int) (c : Int) (i : Nat) : car a b c (i + 1) = (a i + b i + car a b c i) / B := by
  rw [← car_step]
  simp only [car, Int.pow_succ]
  rw [Int.ediv_ediv_of_nonneg (Int.le_of_lt (Bpow_pos i))]
theorem car_lim (a b : Nat → Int) (c : Int) {i : Nat} (hi : i < 8) : lim (val 8 a + val 8 b + c) i = (a i + b i + car a b c i) % B := by
  obtain ⟨k, hk⟩ := val_split a (i + 1) 8 (by omega)
  obtain ⟨l, hl⟩ := val_split b (i + 1) 8 (by omega)
  have e : val 8 a + val 8 b + c = (val (i + 1) a + val (i + 1) b + c) + B ^ (i + 1) * (k + l) := by rw [hk, hl, Int.mul_add]; omega
  rw [e, lim_high, lim, car_step]
theorem car_le {a b : Nat → Int} {c : Int} (ha : Lm a) (hb : Lm b) (h0 : 0 ≤ c) (h1 : c ≤ 1) : ∀ i, i ≤ 8 → 0 ≤ car a b c i ∧ car a b c i ≤ 1
  | 0, _ => by rw [car_zero]; exact ⟨h0, h1⟩
  | i + 1, hi => by
    have h := car_le ha hb h0 h1 i (by omega)
    have h2 := ha i (by omega)
    have h3 := hb i (by omega)
    rw [car_succ]
    unfold B at *
    omega

def sumG (a b : Nat → Int) (c : Int) (i : Int) : Nat → Int := fun j => if (j : Int) < i then lim (val 8 a + val 8 b + c) j else a j
theorem sum_next (a b : Nat → Int) (c : Int) {i : Int} (h0 : 0 ≤ i) (h1 : i < 8) : L8 (upd (sumG a b c i) i.toNat ((sumG a b c i i.toNat + b i.toNat + car a b c i.toNat) % B)) = L8 (sumG a b c (i + 1)) :=
  L8_congr fun j hj => by
    have e : sumG a b c i i.toNat = a i.toNat := by simp only [sumG]; rw [if_neg (by omega)]
    rw [e]
    simp only [upd, sumG]
    by_cases hji : j = i.toNat
    · subst hji; rw [if_pos rfl, if_pos (by omega), car_lim _ _ _ hj]
    · rw [if_neg hji]
      by_cases h2 : (j : Int) < i
      · rw [if_pos h2, if_pos (by omega)]
      · rw [if_neg h2, if_neg (by omega)]
theorem sum_start (a b : Nat → Int) (c : Int) : L8 a = L8 (sumG a b c 0) := L8_congr fun j _ => by simp only [sumG]; rw [if_neg (by omega)]
theorem sum_end (a b : Nat → Int) (c : Int) : L8 (sumG a b c 8) = Wl (val 8 a + val 8 b + c) := L8_congr fun j hj => by simp only [sumG]; rw [if_pos (by omega)]

/-- The limbs of the numbers with 0. -/
theorem val_com (g : Nat → Int) : ∀ n, val n (fun j => 18446744073709551615 - g j) = B ^ n - 1 - val n g
  | 0 => by simp [val]
  | n + 1 => by
    simp only [val, val_com g n, Int.pow_succ]
    rw [Int.sub_mul]
    have : (18446744073709551615 : Int) * B ^ n = B ^ n * B - B ^ n := by
      have e : (18446744073709551615 : Int) = B - 1 := rfl
      rw [e, Int.sub_mul, Int.one_mul, Int.mul_comm]
    omega
theorem lm_com {g : Nat → Int} (h : Lm g) : Lm fun j => 18446744073709551615 - g j := fun j hj => by
  have := h j hj
  unfold B at *
  dsimp only
  omega
theorem Wl_emod {m n : Int} (h : m % M512 = n % M512) : Wl m = Wl n := Wl_of (fun j _ => lim_lm m j) (by rw [val_lim]; exact h)

/-- A number's sign is its greatest bit. -/
theorem lim7 {n : Int} (h : Fits n) : (9223372036854775808 ≤ lim n 7) ↔ n < 0 := by
  unfold Fits at h
  rw [M512_eq] at h
  have e : B ^ 7 = 726838724295606890549323807888004534353641360687318060281490199180639288113397923326191050713763565560762521606266177933534601628614656 := by decide +kernel
  unfold lim
  rw [e]
  unfold B
  omega
theorem val_Wl (n : Int) : val 8 (lim n) = n % M512 := val_lim n 8
end Go.NP

/-
  Products of limbs: plain arithmetic.
-/
namespace Go.NP
open Go Go.RowKit

theorem half_le {a b : Int} (h : 0 ≤ a ∧ a ≤ 4294967295) (k : 0 ≤ b ∧ b ≤ 4294967295) : 0 ≤ a * b ∧ a * b ≤ 18446744065119617025 :=
  ⟨Int.mul_nonneg h.1 k.1, Int.mul_le_mul h.2 k.2 k.1 (by omega)⟩

/-- The school's method on halves: that nothing wraps, and what the upper half is. -/
theorem mul64_int {x y : Int} (hx : 0 ≤ x ∧ x < B) (hy : 0 ≤ y ∧ y < B) :
    (0 ≤ (x % 4294967296) * (y % 4294967296) ∧ (x % 4294967296) * (y % 4294967296) ≤ 18446744073709551615) ∧
    (0 ≤ (x / 4294967296) * (y % 4294967296) ∧ (x / 4294967296) * (y % 4294967296) ≤ 18446744073709551615) ∧
    (0 ≤ (x % 4294967296) * (y / 4294967296) ∧ (x % 4294967296) * (y / 4294967296) ≤ 18446744073709551615) ∧
    (0 ≤ (x / 4294967296) * (y / 4294967296) ∧ (x / 4294967296) * (y / 4294967296) ≤ 18446744073709551615) ∧
    ((x / 4294967296) * (y % 4294967296) + (x % 4294967296) * (y % 4294967296) / 4294967296 ≤ 18446744073709551615) ∧
    (((x / 4294967296) * (y % 4294967296) + (x % 4294967296) * (y % 4294967296) / 4294967296) % 4294967296 + (x % 4294967296) * (y / 4294967296) ≤ 18446744073709551615) ∧
    ((x / 4294967296) * (y / 4294967296) + ((x / 4294967296) * (y % 4294967296) + (x % 4294967296) * (y % 4294967296) / 4294967296) / 4294967296 ≤ 18446744073709551615) ∧
    ((x / 4294967296) * (y / 4294967296) + ((x / 4294967296) * (y % 4294967296) + (x % 4294967296) * (y % 4294967296) / 4294967296) / 4294967296 + (((x / 4294967296) * (y % 4294967296) + (x % 4294967296) * (y % 4294967296) / 4294967296) % 4294967296 + (x % 4294967296) * (y / 4294967296)) / 4294967296 ≤ 18446744073709551615) ∧
    ((x / 4294967296) * (y / 4294967296) + ((x / 4294967296) * (y % 4294967296) + (x % 4294967296) * (y % 4294967296) / 4294967296) / 4294967296 + (((x / 4294967296) * (y % 4294967296) + (x % 4294967296) * (y % 4294967296) / 4294967296) % 4294967296 + (x % 4294967296) * (y / 4294967296)) / 4294967296 = x * y / B) := by
  have e : x * y = (x / 4294967296) * (y / 4294967296) * 18446744073709551616 + ((x / 4294967296) * (y % 4294967296) + (x % 4294967296) * (y / 4294967296)) * 4294967296 + (x % 4294967296) * (y % 4294967296) := by
    have h1 := Int.mul_ediv_add_emod x 4294967296
    have h2 := Int.mul_ediv_add_emod y 4294967296
    generalize x / 4294967296 = p at *
    generalize x % 4294967296 = q at *
    generalize y / 4294967296 = r at *
    generalize y % 4294967296 = s at *
    subst h1 h2
    grind
  unfold B at *
  have ha := half_le (a := x / 4294967296) (b := y / 4294967296) (by omega) (by omega)
  have hb := half_le (a := x / 4294967296) (b := y % 4294967296) (by omega) (by omega)
  have hc := half_le (a := x % 4294967296) (b := y / 4294967296) (by omega) (by omega)
  have hd := half_le (a := x % 4294967296) (b := y % 4294967296) (by omega) (by omega)
  rw [e]
  generalize (x / 4294967296) * (y / 4294967296) = a at *
  generalize (x / 4294967296) * (y % 4294967296) = b at *
  generalize (x % 4294967296) * (y / 4294967296) = c at *
  generalize (x % 4294967296) * (y % 4294967296) = d at *
  refine ⟨by omega, by omega, by omega, by omega, by omega, by omega, by omega, by omega, by omega⟩

theorem val_upd (g : Nat → Int) (j : Nat) (v : Int) : ∀ n, j < n → val n (upd g j v) = val n g + (v - g j) * B ^ j
  | 0, h => by omega
  | n + 1, h => by
    simp only [val]
    by_cases hj : j = n
    · subst hj
      have : val j (upd g j v) = val j g := val_congr j fun i hi => by simp only [upd]; rw [if_neg (by omega)]
      rw [this]
      simp only [upd, if_true, Int.sub_mul]
      omega
    · rw [val_upd g j v n (by omega)]
      have : upd g j v n = g n := by simp only [upd]; rw [if_neg (by omega)]
      rw [this]
      omega
theorem val_mono {g : Nat → Int} {n : Nat} (hg : ∀ j, j < n → 0 ≤ g j) : ∀ m, m ≤ n → val m g ≤ val n g := by
  induction n with
  | zero => intro m hm; have : m = 0 := by omega
            subst this; exact Int.le_refl _
  | succ n ih =>
    intro m hm
    by_cases h : m = n + 1
    · subst h; exact Int.le_refl _
    · have h1 := ih (fun j hj => hg j (by omega)) m (by omega)
      have h2 : 0 ≤ g n * B ^ n := Int.mul_nonneg (hg n (by omega)) (Int.le_of_lt (Bpow_pos n))
      simp only [val]
      omega
theorem lm_upd {g : Nat → Int} (h : Lm g) {j : Nat} {v : Int} (hv : 0 ≤ v ∧ v < B) : Lm (upd g j v) := fun i hi => by
  simp only [upd]
  split
  · exact hv
  · exact h i hi

section
variable {x y : Nat → Int} (hx : Lm x) (hy : Lm y)
def MI (x y l : Nat → Int) (c : Int) (i k : Nat) : Prop := Lm l ∧ 0 ≤ c ∧ c < B ∧ val 8 l + c * B ^ (i + k) = val i x * val 8 y + x i * val k y * B ^ i

include hx hy
theorem mul_bound {i k : Nat} (hi : i < 8) (hk : k ≤ 8) : val i x * val 8 y + x i * val k y * B ^ i ≤ val 8 x * val 8 y := by
  have hY := (val_bounds 8 (g := y) (fun j hj => hy j (by omega))).1
  have h1 : val k y ≤ val 8 y := val_mono (fun j hj => (hy j hj).1) k hk
  have h2 : val (i + 1) x ≤ val 8 x := val_mono (fun j hj => (hx j hj).1) (i + 1) (by omega)
  have h3 : x i * val k y ≤ x i * val 8 y := Int.mul_le_mul_of_nonneg_left h1 (hx i hi).1
  have h4 : x i * val k y * B ^ i ≤ x i * val 8 y * B ^ i := Int.mul_le_mul_of_nonneg_right h3 (Int.le_of_lt (Bpow_pos i))
  have h5 : val (i + 1) x * val 8 y ≤ val 8 x * val 8 y := Int.mul_le_mul_of_nonneg_right h2 hY
  have h6 : val (i + 1) x * val 8 y = val i x * val 8 y + x i * val 8 y * B ^ i := by
    simp only [val, Int.add_mul]
    rw [Int.mul_right_comm]
  omega
omit hx hy in
theorem pow_ge {n : Nat} (h : 8 ≤ n) : B ^ 8 ≤ B ^ n := by
  obtain ⟨d, rfl⟩ : ∃ d, n = 8 + d := ⟨n - 8, by omega⟩
  rw [Int.pow_add]
  have h1 : (0 : Int) < B ^ d := Bpow_pos d
  have h2 : B ^ 8 * 1 ≤ B ^ 8 * B ^ d := Int.mul_le_mul_of_nonneg_left (by omega) (Int.le_of_lt (Bpow_pos 8))
  omega
omit hx hy in
theorem zero_of_pow {c : Int} {n : Nat} (h : 8 ≤ n) (h0 : 0 ≤ c) (hc : c * B ^ n < B ^ 8) : c = 0 := by
  by_cases h1 : c = 0
  · exact h1
  · have h2 := pow_ge h
    have h3 : 1 * B ^ n ≤ c * B ^ n := Int.mul_le_mul_of_nonneg_right (by omega) (Int.le_of_lt (Bpow_pos n))
    omega

theorem mi_high {l : Nat → Int} {c : Int} {i k : Nat} (hp : val 8 x * val 8 y < B ^ 8) (hi : i < 8) (hk : k ≤ 8) (h8 : 8 ≤ i + k) (h : MI x y l c i k) : c = 0 := by
  obtain ⟨h1, h2, h3, h4⟩ := h
  have h5 := mul_bound hx hy hi hk
  have h6 := (val_bounds 8 (g := l) (fun j hj => h1 j hj)).1
  exact zero_of_pow h8 h2 (by omega)
theorem mi_high_prod {l : Nat → Int} {c : Int} {i k : Nat} (hp : val 8 x * val 8 y < B ^ 8) (hi : i < 8) (hk : k < 8) (h8 : 8 ≤ i + k) (h : MI x y l c i k) : x i * y k = 0 := by
  obtain ⟨h1, h2, h3, h4⟩ := h
  have h5 := mul_bound hx hy (k := k + 1) hi (by omega)
  have h6 := (val_bounds 8 (g := l) (fun j hj => h1 j hj)).1
  have h7 : 0 ≤ c * B ^ (i + k) := Int.mul_nonneg h2 (Int.le_of_lt (Bpow_pos _))
  have h8' : x i * val (k + 1) y * B ^ i = x i * val k y * B ^ i + x i * y k * B ^ (i + k) := by
    simp only [val, Int.mul_add, Int.add_mul, Int.pow_add]
    congr 1
    grind
  exact zero_of_pow h8 (Int.mul_nonneg (hx i hi).1 (hy k hk).1) (by omega)
theorem mi_skip {l : Nat → Int} {c : Int} {i k : Nat} (hp : val 8 x * val 8 y < B ^ 8) (hi : i < 8) (hk : k < 8) (h8 : 8 ≤ i + k) (h : MI x y l c i k) : MI x y l 0 i (k + 1) := by
  have e1 := mi_high hx hy hp hi (by omega) h8 h
  have e2 := mi_high_prod hx hy hp hi hk h8 h
  obtain ⟨h1, h2, h3, h4⟩ := h
  refine ⟨h1, Int.le_refl 0, B_pos, ?_⟩
  have h8' : x i * val (k + 1) y * B ^ i = x i * val k y * B ^ i + x i * y k * B ^ (i + k) := by
    simp only [val, Int.mul_add, Int.add_mul, Int.pow_add]
    congr 1
    grind
  rw [e1] at h4
  rw [e2] at h8'
  rw [h8']
  simp only [Int.zero_mul, Int.add_zero] at *
  exact h4

omit hx hy in
theorem limb_step {p c l : Int} (hp0 : 0 ≤ p) (hp : p ≤ 340282366920938463426481119284349108225) (hc : 0 ≤ c ∧ c < B) (hl : 0 ≤ l ∧ l < B) :
    (l + (p % B + c) % B) % B = (p + c + l) % B ∧ p / B + (p % B + c) / B + (l + (p % B + c) % B) / B = (p + c + l) / B ∧ p / B + (p % B + c) / B ≤ 18446744073709551615 ∧ (p + c + l) / B < B ∧ 0 ≤ (p + c + l) / B := by
  unfold B at *
  omega
omit hx hy in
theorem prod_le {a b : Int} (ha : 0 ≤ a ∧ a < B) (hb : 0 ≤ b ∧ b < B) : 0 ≤ a * b ∧ a * b ≤ 340282366920938463426481119284349108225 :=
  ⟨Int.mul_nonneg ha.1 hb.1, Int.mul_le_mul (a := a) (b := b) (c := 18446744073709551615) (d := 18446744073709551615) (by unfold B at ha; omega) (by unfold B at hb; omega) hb.1 (by omega)⟩
theorem mi_step {l : Nat → Int} {c : Int} {i k : Nat} (hi : i < 8) (hk : k < 8) (h8 : i + k < 8) (h : MI x y l c i k) :
    MI x y (upd l (i + k) ((x i * y k + c + l (i + k)) % B)) ((x i * y k + c + l (i + k)) / B) i (k + 1) := by
  obtain ⟨h1, h2, h3, h4⟩ := h
  have hb := prod_le (hx i hi) (hy k hk)
  have hs := limb_step hb.1 hb.2 ⟨h2, h3⟩ (h1 (i + k) h8)
  refine ⟨lm_upd h1 ⟨Int.emod_nonneg _ (by decide), Int.emod_lt_of_pos _ B_pos⟩, hs.2.2.2.2, hs.2.2.2.1, ?_⟩
  rw [val_upd _ _ _ 8 h8]
  have h8' : x i * val (k + 1) y * B ^ i = x i * val k y * B ^ i + x i * y k * B ^ (i + k) := by
    simp only [val, Int.mul_add, Int.add_mul, Int.pow_add]
    congr 1
    grind
  rw [h8', ← Int.add_assoc, ← h4, show i + (k + 1) = (i + k) + 1 by omega, Int.pow_succ]
  have hd := Int.emod_add_mul_ediv (x i * y k + c + l (i + k)) B
  generalize B ^ (i + k) = q
  generalize x i * y k = p at *
  generalize (p + c + l (i + k)) / B = r at *
  generalize (p + c + l (i + k)) % B = s at *
  have e : s = p + c + l (i + k) - B * r := by omega
  rw [e]
  grind
theorem mi_end {l : Nat → Int} {c : Int} {i : Nat} (hp : val 8 x * val 8 y < B ^ 8) (hi : i < 8) (h : MI x y l c i 8) : c = 0 ∧ Lm l ∧ val 8 l = val (i + 1) x * val 8 y := by
  have e1 := mi_high hx hy hp hi (by omega) (by omega) h
  obtain ⟨h1, h2, h3, h4⟩ := h
  refine ⟨e1, h1, ?_⟩
  rw [e1] at h4
  simp only [Int.zero_mul, Int.add_zero] at h4
  rw [h4]
  simp only [val, Int.add_mul]
  grind
omit hx hy in
theorem mi_start {l : Nat → Int} {i : Nat} (hl : Lm l) (h : val 8 l = val i x * val 8 y) : MI x y l 0 i 0 :=
  ⟨hl, Int.le_refl 0, B_pos, by rw [h, show val 0 y = 0 from rfl]; simp⟩
end
end Go.NP

/-
  Bits: plain arithmetic.
-/
namespace Go.NP
open Go Go.RowKit

/-! ## Or, where no bit is met twice -/
theorem oru {x y : Int} (k : Nat) (a : Int) (hx : x = a * 2 ^ k) (ha : 0 ≤ a) (hy : 0 ≤ y) (hyk : y < 2 ^ k) (hs : x + y < B) : binI .or .u64 x .u64 y = some (.int .u64 (x + y)) := by
  have hk : (0 : Int) < 2 ^ k := Int.pow_pos (by decide)
  have hx0 : 0 ≤ x := by rw [hx]; exact Int.mul_nonneg ha (Int.le_of_lt hk)
  unfold B at hs
  simp only [binI, if_true]
  have e : (BitVec.ofInt IntKind.u64.bits x ||| BitVec.ofInt IntKind.u64.bits y).toNat = x.toNat + y.toNat := by
    show (BitVec.ofInt 64 x ||| BitVec.ofInt 64 y).toNat = _
    rw [BitVec.toNat_or, bv_toNat hx0 (by omega), bv_toNat hy (by omega)]
    obtain ⟨a, rfl⟩ := Int.eq_ofNat_of_zero_le ha
    obtain ⟨y, rfl⟩ := Int.eq_ofNat_of_zero_le hy
    have hyk' : y < 2 ^ k := by exact_mod_cast hyk
    have := Nat.two_pow_add_eq_or_of_lt hyk' a
    have ex : x.toNat = 2 ^ k * a := by
      rw [hx, Int.mul_comm]
      have : ((2 : Int) ^ k * (a : Int)) = ((2 ^ k * a : Nat) : Int) := by push_cast; rfl
      rw [this, Int.toNat_natCast]
    rw [ex, Int.toNat_natCast]
    exact this.symm
  rw [e, IntKind.wrap_u64]
  congr 2
  omega

/-! ## Shifts by a number that is told at run time -/
theorem min64 {n : Int} (_h0 : 0 ≤ n) (h1 : n ≤ 64) : min n.toNat IntKind.u64.bits = n.toNat := by
  show min n.toNat 64 = n.toNat
  omega
theorem shlu {a n : Int} {k : IntKind} (h0 : 0 ≤ n) (h1 : n ≤ 64) : binI .shl .u64 a k n = some (.int .u64 (a * 2 ^ n.toNat % B)) := by
  simp only [binI, shI]
  rw [if_pos h0, min64 h0 h1, IntKind.wrap_u64]
  rfl
theorem shru {a n : Int} {k : IntKind} (h0 : 0 ≤ n) (h1 : n ≤ 64) : binI .shr .u64 a k n = some (.int .u64 (a / 2 ^ n.toNat)) := by
  simp only [binI]
  rw [if_pos h0, min64 h0 h1, Int.fdiv_eq_ediv_of_nonneg _ (Int.le_of_lt (Int.pow_pos (by decide)))]

/-! ## How many bits -/
def blen (n : Int) : Int := if n ≤ 0 then 0 else (Nat.log2 n.toNat : Int) + 1
theorem blen_nonneg (n : Int) : 0 ≤ blen n := by unfold blen; split <;> omega
theorem lt_blen {n : Int} (h : 0 ≤ n) : n < 2 ^ (blen n).toNat := by
  unfold blen
  split
  · have : n = 0 := by omega
    subst this; decide
  · obtain ⟨m, rfl⟩ := Int.eq_ofNat_of_zero_le h
    rw [show ((Nat.log2 (m : Int).toNat : Int) + 1).toNat = Nat.log2 m + 1 by simp]
    have : m < 2 ^ (Nat.log2 m + 1) := Nat.lt_log2_self
    exact_mod_cast this
theorem blen_le {n : Int} (h : 0 < n) : 1 ≤ blen n ∧ 2 ^ (blen n - 1).toNat ≤ n := by
  unfold blen
  rw [if_neg (by omega)]
  obtain ⟨m, rfl⟩ := Int.eq_ofNat_of_zero_le (Int.le_of_lt h)
  refine ⟨by omega, ?_⟩
  rw [show ((Nat.log2 (m : Int).toNat : Int) + 1 - 1).toNat = Nat.log2 m by simp]
  have : 2 ^ Nat.log2 m ≤ m := Nat.log2_self_le (by omega)
  exact_mod_cast this
theorem blen_eq {n : Int} {k : Nat} (h0 : 2 ^ k ≤ n) (h1 : n < 2 ^ (k + 1)) : blen n = k + 1 := by
  have hp : (0 : Int) < 2 ^ k := Int.pow_pos (by decide)
  unfold blen
  rw [if_neg (by omega)]
  obtain ⟨m, rfl⟩ := Int.eq_ofNat_of_zero_le (by omega : 0 ≤ n)
  rw [Int.toNat_natCast]
  have h0' : 2 ^ k ≤ m := by exact_mod_cast h0
  have h1' : m < 2 ^ (k + 1) := by exact_mod_cast h1
  have : Nat.log2 m = k := (Nat.log2_eq_iff (by have := Nat.two_pow_pos k; omega)).2 ⟨h0', h1'⟩
  rw [this]
theorem blen_shift {n : Int} {k : Nat} (h : 2 ^ k ≤ n) : blen n = k + blen (n / 2 ^ k) := by
  have hp : (0 : Int) < 2 ^ k := Int.pow_pos (by decide)
  have h1 : 1 ≤ n / 2 ^ k := by
    have := Int.ediv_le_ediv hp h
    rwa [Int.ediv_self (Int.ne_of_gt hp)] at this
  obtain ⟨h2, h3⟩ := blen_le (n := n / 2 ^ k) (by omega)
  have h4 := lt_blen (n := n / 2 ^ k) (by omega)
  generalize blen (n / 2 ^ k) = l at *
  obtain ⟨j, rfl⟩ : ∃ j : Nat, l = j + 1 := ⟨(l - 1).toNat, by omega⟩
  rw [show ((j : Int) + 1 - 1).toNat = j by omega] at h3
  rw [show ((j : Int) + 1).toNat = j + 1 by omega] at h4
  have h5 : 2 ^ (k + j) ≤ n := by
    have := Int.mul_le_of_le_ediv hp h3
    rwa [← Int.pow_add, Nat.add_comm] at this
  have h6 : n < 2 ^ (k + j + 1) := by
    have := Int.lt_mul_of_ediv_lt hp h4
    rwa [← Int.pow_add, show j + 1 + k = k + j + 1 by omega] at this
  rw [blen_eq h5 h6]
  push_cast
  omega
theorem blen_mono {m n : Int} (h0 : 0 ≤ m) (h : m ≤ n) : blen m ≤ blen n := by
  by_cases hm : m = 0
  · subst hm; unfold blen; rw [if_pos (by omega)]; split <;> omega
  · obtain ⟨h1, h2⟩ := blen_le (n := m) (by omega)
    have h3 := lt_blen (n := n) (by omega)
    have h4 : (2 : Int) ^ (blen m - 1).toNat < 2 ^ (blen n).toNat := by omega
    have h5 : (blen m - 1).toNat < (blen n).toNat := by
      by_cases hh : (blen m - 1).toNat < (blen n).toNat
      · exact hh
      · exfalso
        obtain ⟨d, hd⟩ : ∃ d, (blen m - 1).toNat = (blen n).toNat + d := ⟨(blen m - 1).toNat - (blen n).toNat, by omega⟩
        rw [hd, Int.pow_add] at h4
        have e1 : (1 : Int) ≤ 2 ^ d := Int.pow_pos (by decide)
        have e2 : (2 : Int) ^ (blen n).toNat * 1 ≤ 2 ^ (blen n).toNat * 2 ^ d := Int.mul_le_mul_of_nonneg_left e1 (Int.le_of_lt (Int.pow_pos (by decide)))
        omega
    have := blen_nonneg n
    omega
theorem B_two (i : Nat) : B ^ i = 2 ^ (64 * i) := by
  rw [Int.pow_mul]; rfl
/-- Where the greatest limb that is not 0 stands. -/
theorem blen_val {g : Nat → Int} (hg : Lm g) {i : Nat} (hi : i < 8) (hz : ∀ j, i < j → j < 8 → g j = 0) (hn : g i ≠ 0) : blen (val 8 g) = 64 * i + blen (g i) := by
  have key : ∀ n, i < n → n ≤ 8 → val n g = val i g + g i * B ^ i := by
    intro n
    induction n with
    | zero => intro h; omega
    | succ n ih =>
      intro h hn
      simp only [val]
      by_cases hin : i = n
      · subst hin; rfl
      · rw [ih (by omega) (by omega), hz n (by omega) (by omega)]; omega
  have hgi := hg i hi
  have hb := val_bounds i (g := g) (fun j hj => hg j (by omega))
  have hp := Bpow_pos i
  have h1 : 1 * B ^ i ≤ g i * B ^ i := Int.mul_le_mul_of_nonneg_right (by omega) (Int.le_of_lt hp)
  rw [key 8 hi (Nat.le_refl 8)]
  rw [blen_shift (k := 64 * i) (by rw [← B_two]; omega), ← B_two]
  rw [Int.add_mul_ediv_right _ _ (Int.ne_of_gt hp), Int.ediv_eq_zero_of_lt hb.1 hb.2, Int.zero_add]
  push_cast
  rfl
theorem val_zero {g : Nat → Int} : ∀ n, (∀ j, j < n → g j = 0) → val n g = 0
  | 0, _ => rfl
  | n + 1, h => by simp only [val, val_zero n (fun j hj => h j (by omega)), h n (by omega)]; omega
theorem blen_zero : blen 0 = 0 := rfl

/-! ## Half -/
theorem lim_half (n : Int) (i : Nat) : lim (n / 2) i = lim n i / 2 + lim n (i + 1) % 2 * 9223372036854775808 := by
  simp only [lim, Int.pow_succ]
  rw [← Int.ediv_ediv_of_nonneg (Int.le_of_lt (Bpow_pos i)), Int.ediv_ediv_of_nonneg (by omega : (0 : Int) ≤ 2), Int.mul_comm 2, ← Int.ediv_ediv_of_nonneg (Int.le_of_lt (Bpow_pos i))]
  generalize n / B ^ i = m
  unfold B
  omega

/-! ## Times a power of two -/
theorem lim_shift0 (n : Int) (t : Nat) : lim (n * 2 ^ t) 0 = lim n 0 * 2 ^ t % B := by
  simp only [lim, Int.pow_zero, Int.ediv_one]
  rw [Int.mul_emod (n % B), Int.emod_emod, ← Int.mul_emod]
theorem shift_div (c : Int) (t : Nat) (ht : t ≤ 64) (f : Int) (h0 : 0 ≤ f) (h1 : f < 2 ^ t) : (c * 2 ^ t + f) / B = c / 2 ^ (64 - t) := by
  have e : B = 2 ^ t * 2 ^ (64 - t) := by rw [← Int.pow_add, show t + (64 - t) = 64 by omega]; rfl
  have hp : (0 : Int) < 2 ^ t := Int.pow_pos (by decide)
  rw [e, ← Int.ediv_ediv_of_nonneg (Int.le_of_lt hp)]
  congr 1
  rw [Int.add_comm, Int.add_mul_ediv_right _ _ (Int.ne_of_gt hp), Int.ediv_eq_zero_of_lt h0 h1, Int.zero_add]
theorem lim_shift (n : Int) (t : Nat) (ht : t ≤ 64) (j : Nat) : lim (n * 2 ^ t) (j + 1) = lim n (j + 1) * 2 ^ t % B + lim n j / 2 ^ (64 - t) := by
  have hp : (0 : Int) < 2 ^ t := Int.pow_pos (by decide)
  have hB := Bpow_pos j
  -- what stands behind limb j + 1
  have h1 : n * 2 ^ t / B ^ (j + 1) = (n / B ^ (j + 1)) * 2 ^ t + lim n j / 2 ^ (64 - t) := by
    have e0 : n = B ^ j * (n / B ^ j) + n % B ^ j := (Int.mul_ediv_add_emod n (B ^ j)).symm
    have r0 : 0 ≤ n % B ^ j := Int.emod_nonneg _ (Int.ne_of_gt hB)
    have r1 : n % B ^ j < B ^ j := Int.emod_lt_of_pos _ hB
    have e1 : n * 2 ^ t = (n % B ^ j) * 2 ^ t + B ^ j * ((n / B ^ j) * 2 ^ t) := by
      conv => lhs; rw [e0]
      grind
    have f0 : 0 ≤ (n % B ^ j) * 2 ^ t / B ^ j := Int.ediv_nonneg (Int.mul_nonneg r0 (Int.le_of_lt hp)) (Int.le_of_lt hB)
    have f1 : (n % B ^ j) * 2 ^ t / B ^ j < 2 ^ t := Int.ediv_lt_of_lt_mul hB (by rw [Int.mul_comm]; exact Int.mul_lt_mul_of_pos_left r1 hp)
    rw [Int.pow_succ, ← Int.ediv_ediv_of_nonneg (Int.le_of_lt hB), e1, Int.add_mul_ediv_left _ _ (Int.ne_of_gt hB)]
    have e2 : n / B ^ j = B * (n / B ^ j / B) + n / B ^ j % B := (Int.mul_ediv_add_emod _ B).symm
    have e3 : (n % B ^ j) * 2 ^ t / B ^ j + n / B ^ j * 2 ^ t = (n / B ^ j % B * 2 ^ t + (n % B ^ j) * 2 ^ t / B ^ j) + B * (n / B ^ j / B * 2 ^ t) := by
      conv => lhs; rw [e2]
      have e4 : (B * (n / B ^ j / B) + n / B ^ j % B) % B = n / B ^ j % B := by rw [← e2]
      grind
    rw [e3, Int.add_mul_ediv_left _ _ (by decide), shift_div _ t ht _ f0 f1, ← Int.ediv_ediv_of_nonneg (Int.le_of_lt hB)]
    simp only [lim]
    omega
  have b0 : 0 ≤ lim n j / 2 ^ (64 - t) := Int.ediv_nonneg (lim_lm n j).1 (Int.le_of_lt (Int.pow_pos (by decide)))
  have b1 : lim n j / 2 ^ (64 - t) < 2 ^ t := Int.ediv_lt_of_lt_mul (Int.pow_pos (by decide)) (by rw [← Int.pow_add, show t + (64 - t) = 64 by omega]; exact (lim_lm n j).2)
  rw [lim, h1]
  generalize lim n j / 2 ^ (64 - t) = f at *
  simp only [lim]
  -- the limb's own bits
  have e5 : B = 2 ^ t * 2 ^ (64 - t) := by rw [← Int.pow_add, show t + (64 - t) = 64 by omega]; rfl
  generalize n / B ^ (j + 1) = m
  have e6 : m % B * 2 ^ t % B = m * 2 ^ t % B := by rw [Int.mul_emod, Int.mul_emod m, Int.emod_emod]
  rw [e6]
  have e7 : m * 2 ^ t % B = m % 2 ^ (64 - t) * 2 ^ t := by
    rw [e5, Int.mul_comm m, Int.mul_comm (m % _)]
    exact Int.mul_emod_mul_of_pos _ _ hp
  have q0 : 0 ≤ m % 2 ^ (64 - t) := Int.emod_nonneg _ (Int.ne_of_gt (Int.pow_pos (by decide)))
  have q1 : m % 2 ^ (64 - t) < 2 ^ (64 - t) := Int.emod_lt_of_pos _ (Int.pow_pos (by decide))
  have q2 : m % 2 ^ (64 - t) * 2 ^ t ≤ (2 ^ (64 - t) - 1) * 2 ^ t := Int.mul_le_mul_of_nonneg_right (by omega) (Int.le_of_lt hp)
  have q3 : (2 ^ (64 - t) - 1) * 2 ^ t = B - 2 ^ t := by rw [Int.sub_mul, Int.one_mul, e5, Int.mul_comm]
  have q4 : 0 ≤ m % 2 ^ (64 - t) * 2 ^ t := Int.mul_nonneg q0 (Int.le_of_lt hp)
  rw [Int.add_emod, e7, Int.emod_eq_of_lt (a := f) b0 (by omega), Int.emod_eq_of_lt (by omega) (by omega)]
theorem lim_pow (n : Int) (m j : Nat) : lim (n * B ^ m) j = if j < m then 0 else lim n (j - m) := by
  simp only [lim]
  split
  · rename_i h
    obtain ⟨d, rfl⟩ : ∃ d, m = j + (d + 1) := ⟨m - j - 1, by omega⟩
    rw [Int.pow_add, Int.mul_left_comm, Int.mul_ediv_cancel_left _ (Int.ne_of_gt (Bpow_pos j)), Int.pow_succ, ← Int.mul_assoc, Int.mul_emod_left]
  · rename_i h
    obtain ⟨d, rfl⟩ : ∃ d, j = m + d := ⟨j - m, by omega⟩
    rw [Int.pow_add, Nat.add_sub_cancel_left, Int.mul_comm, Int.mul_ediv_mul_of_pos _ _ (Bpow_pos m)]
end Go.NP

/-
  Halves and products by powers of two, limb by limb, as the program makes them.
-/
namespace Go.NP
open Go Go.RowKit

def hlG (n i : Int) : Nat → Int := fun j => if (j : Int) < i then lim (n / 2) j else lim n j
theorem hl_at {n i : Int} (h : 0 ≤ i) : hlG n i i.toNat = lim n i.toNat := by simp only [hlG]; rw [if_neg (by omega)]
theorem hl_up {n i : Int} (h : 0 ≤ i) {j : Int} (hj : i < j) (v : Int) : upd (hlG n i) i.toNat v j.toNat = lim n j.toNat := by
  simp only [hlG, upd]; rw [if_neg (by omega), if_neg (by omega)]
theorem upd_self (g : Nat → Int) (k : Nat) (v : Int) : upd g k v k = v := by simp [upd]
theorem hl_next {n i : Int} (h : 0 ≤ i) (u : Int) : L8 (upd (upd (hlG n i) i.toNat u) i.toNat (lim (n / 2) i.toNat)) = L8 (hlG n (i + 1)) :=
  L8_congr fun j _ => by
    simp only [upd, hlG]
    by_cases hj : j = i.toNat
    · subst hj; rw [if_pos rfl, if_pos (by omega)]
    · rw [if_neg hj, if_neg hj]
      by_cases hk : (j : Int) < i
      · rw [if_pos hk, if_pos (by omega)]
      · rw [if_neg hk, if_neg (by omega)]
theorem hl_last {n i : Int} (h : 0 ≤ i) {v : Int} (hv : v = lim (n / 2) i.toNat) : L8 (upd (hlG n i) i.toNat v) = L8 (hlG n (i + 1)) := by
  rw [← hl_next h v, hv]
  exact L8_congr fun j _ => by simp only [upd]; split <;> rfl
theorem or_comm' (a b : Int) : binI .or .u64 a .u64 b = binI .or .u64 b .u64 a := by
  simp only [binI, if_true, BitVec.or_comm]
theorem half_or (n : Int) (i : Nat) : binI .or .u64 (lim n i / 2) .u64 (lim n (i + 1) * 2 ^ (63 : Int).toNat % B) = some (.int .u64 (lim (n / 2) i)) := by
  have h0 := lim_lm n i
  have h1 := lim_lm n (i + 1)
  have e : lim n (i + 1) * 2 ^ (63 : Int).toNat % B = lim n (i + 1) % 2 * 9223372036854775808 := by
    rw [show (2 : Int) ^ (63 : Int).toNat = 9223372036854775808 from rfl]
    unfold B at *
    omega
  rw [lim_half, e, or_comm', Int.add_comm]
  unfold B at h0 h1
  exact oru 63 (lim n (i + 1) % 2) (by rw [show (2 : Int) ^ 63 = 9223372036854775808 from rfl]) (by omega) (by omega) (by rw [show (2 : Int) ^ 63 = 9223372036854775808 from rfl]; omega) (by unfold B; omega)
theorem half_last {n : Int} (h0 : 0 ≤ n) (h1 : n < B ^ 8) : lim n 7 / 2 = lim (n / 2) 7 := by
  rw [lim_half]
  have : lim n (7 + 1) = 0 := by simp only [lim]; rw [Int.ediv_eq_zero_of_lt h0 h1]; rfl
  rw [this]; omega

/-! ## left -/
def lfG (A : Int) (m t : Nat) (i : Int) : Nat → Int := fun j => if (j : Int) < i then lim (A * 2 ^ t * B ^ m) j else 0
theorem lf_start (A : Int) (m t : Nat) (g : Nat → Int) (hg : ∀ j, g j = 0) : L8 g = L8 (lfG A m t (m : Int)) :=
  L8_congr fun j _ => by
    rw [hg]
    simp only [lfG]
    split
    · rw [lim_pow, if_pos (by omega)]
    · rfl
theorem lf_at {A : Int} {m t : Nat} {i : Int} {v : Int} (_h : 0 ≤ i) : upd (lfG A m t i) i.toNat v i.toNat = v := upd_self _ _ _
theorem lf_next {A : Int} {m t : Nat} {i : Int} (h : 0 ≤ i) {v : Int} (hv : v = lim (A * 2 ^ t * B ^ m) i.toNat) : L8 (upd (lfG A m t i) i.toNat v) = L8 (lfG A m t (i + 1)) :=
  L8_congr fun j _ => by
    simp only [upd, lfG]
    by_cases hj : j = i.toNat
    · subst hj; rw [if_pos rfl, if_pos (by omega), hv]
    · rw [if_neg hj]
      by_cases hk : (j : Int) < i
      · rw [if_pos hk, if_pos (by omega)]
      · rw [if_neg hk, if_neg (by omega)]
theorem lf_next2 {A : Int} {m t : Nat} {i : Int} (h : 0 ≤ i) (u : Int) {v : Int} (hv : v = lim (A * 2 ^ t * B ^ m) i.toNat) : L8 (upd (upd (lfG A m t i) i.toNat u) i.toNat v) = L8 (lfG A m t (i + 1)) := by
  rw [← lf_next h hv]
  exact L8_congr fun j _ => by simp only [upd]; split <;> rfl
/-- The first limb, and all of them where nothing is shifted within limbs. -/
theorem lf_first (A : Int) (m t : Nat) {i : Int} (h : i = m) : lim A (i - m).toNat * 2 ^ t % B = lim (A * 2 ^ t * B ^ m) i.toNat := by
  subst h
  rw [show ((m : Int) - m).toNat = 0 by omega, ← lim_shift0, lim_pow, if_neg (by omega), show (m : Int).toNat - m = 0 by omega]
theorem lf_whole (A : Int) (m : Nat) {i : Int} (h : (m : Int) ≤ i) : lim A (i - m).toNat * 2 ^ 0 % B = lim (A * 2 ^ 0 * B ^ m) i.toNat := by
  rw [lim_pow, if_neg (by omega), show i.toNat - m = (i - m).toNat by omega, Int.pow_zero, Int.mul_one, Int.mul_one]
  have := lim_lm A (i - m).toNat
  exact Int.emod_eq_of_lt this.1 this.2
theorem lf_or (A : Int) (m t : Nat) (ht0 : 0 < t) (ht : t ≤ 63) {i : Int} (h : (m : Int) < i) :
    binI .or .u64 (lim A (i - m).toNat * 2 ^ t % B) .u64 (lim A (i - m - 1).toNat / 2 ^ (64 - t)) = some (.int .u64 (lim (A * 2 ^ t * B ^ m) i.toNat)) := by
  obtain ⟨j, hj⟩ : ∃ j : Nat, i - m - 1 = j := ⟨(i - m - 1).toNat, by omega⟩
  rw [lim_pow, if_neg (by omega), show i.toNat - m = j + 1 by omega, show (i - m).toNat = j + 1 by omega, show (i - m - 1).toNat = j by omega, lim_shift A t (by omega) j]
  have b0 : 0 ≤ lim A j / 2 ^ (64 - t) := Int.ediv_nonneg (lim_lm A j).1 (Int.le_of_lt (Int.pow_pos (by decide)))
  have b1 : lim A j / 2 ^ (64 - t) < 2 ^ t := Int.ediv_lt_of_lt_mul (Int.pow_pos (by decide)) (by rw [← Int.pow_add, show t + (64 - t) = 64 by omega]; exact (lim_lm A j).2)
  have hp : (0 : Int) < 2 ^ t := Int.pow_pos (by decide)
  have e5 : B = 2 ^ t * 2 ^ (64 - t) := by rw [← Int.pow_add, show t + (64 - t) = 64 by omega]; rfl
  have e7 : lim A (j + 1) * 2 ^ t % B = lim A (j + 1) % 2 ^ (64 - t) * 2 ^ t := by
    rw [e5, Int.mul_comm _ (2 ^ t), Int.mul_comm (_ % _)]
    exact Int.mul_emod_mul_of_pos _ _ hp
  have q0 : 0 ≤ lim A (j + 1) % 2 ^ (64 - t) := Int.emod_nonneg _ (Int.ne_of_gt (Int.pow_pos (by decide)))
  have q1 : lim A (j + 1) % 2 ^ (64 - t) < 2 ^ (64 - t) := Int.emod_lt_of_pos _ (Int.pow_pos (by decide))
  have q2 : lim A (j + 1) % 2 ^ (64 - t) * 2 ^ t ≤ (2 ^ (64 - t) - 1) * 2 ^ t := Int.mul_le_mul_of_nonneg_right (by omega) (Int.le_of_lt hp)
  have q3 : (2 ^ (64 - t) - 1) * 2 ^ t = B - 2 ^ t := by rw [Int.sub_mul, Int.one_mul, e5, Int.mul_comm]
  exact oru t _ e7 q0 b0 b1 (by rw [e7]; omega)
/-- 2^n as limbs and bits. -/
theorem pow_split (A : Int) {n : Int} (h : 0 ≤ n) : A * 2 ^ (n % 64).toNat * B ^ (n / 64).toNat = A * 2 ^ n.toNat := by
  rw [B_two, Int.mul_assoc, ← Int.pow_add]
  congr 2
  omega
end Go.NP

/-
  Long division: the quotient's bits.
-/
namespace Go.NP
open Go Go.RowKit

/-- A quotient all of whose bits are above bit n. -/
def Above (q n : Int) : Prop := 0 ≤ q ∧ ∃ k, q = k * 2 ^ (n + 1).toNat
section
variable {q n : Int}
theorem above_shape (hn : 0 ≤ n) (h : Above q n) : ∃ u k : Int, 0 ≤ k ∧ u = k * 2 ^ ((n % 64).toNat + 1) ∧ q = u * B ^ (n / 64).toNat := by
  obtain ⟨h0, k, hk⟩ := h
  have hp : (0 : Int) < 2 ^ (n + 1).toNat := Int.pow_pos (by decide)
  refine ⟨k * 2 ^ ((n % 64).toNat + 1), k, ?_, rfl, ?_⟩
  · by_cases hk0 : 0 ≤ k
    · exact hk0
    · have : k * 2 ^ (n + 1).toNat ≤ -1 * 2 ^ (n + 1).toNat := Int.mul_le_mul_of_nonneg_right (by omega) (Int.le_of_lt hp)
      omega
  · rw [hk, B_two, Int.mul_assoc, ← Int.pow_add]
    congr 2
    omega
theorem pow_shape (hn : 0 ≤ n) : (2 : Int) ^ n.toNat = 2 ^ (n % 64).toNat * B ^ (n / 64).toNat := by
  rw [B_two, ← Int.pow_add]
  congr 1
  omega
theorem q_or (hn : 0 ≤ n) (h : Above q n) : binI .or .u64 (lim q (n / 64).toNat) .u64 (1 * 2 ^ (n % 64).toNat % B) = some (.int .u64 (lim (q + 2 ^ n.toNat) (n / 64).toNat)) := by
  obtain ⟨u, k, hk, hu, hq⟩ := above_shape hn h
  have ht : (n % 64).toNat ≤ 63 := by omega
  have hpw := pow_shape hn
  generalize (n % 64).toNat = t at *
  generalize (n / 64).toNat = m at *
  have hB := Bpow_pos m
  have e1 : lim q m = u % B := by simp only [lim]; rw [hq, Int.mul_ediv_cancel _ (Int.ne_of_gt hB)]
  have e2 : lim (q + 2 ^ n.toNat) m = (u + 2 ^ t) % B := by
    simp only [lim]; rw [hq, hpw, ← Int.add_mul, Int.mul_ediv_cancel _ (Int.ne_of_gt hB)]
  have hp : (0 : Int) < 2 ^ t := Int.pow_pos (by decide)
  have hp1 : (2 : Int) ^ (t + 1) = 2 ^ t * 2 := Int.pow_succ _ _
  have eB : B = 2 ^ (t + 1) * 2 ^ (63 - t) := by rw [← Int.pow_add, show t + 1 + (63 - t) = 64 by omega]; rfl
  have e3 : u % B = k % 2 ^ (63 - t) * 2 ^ (t + 1) := by
    rw [hu, eB, Int.mul_comm k, Int.mul_comm (k % _)]
    exact Int.mul_emod_mul_of_pos _ _ (Int.pow_pos (by decide))
  have a0 : 0 ≤ k % 2 ^ (63 - t) := Int.emod_nonneg _ (Int.ne_of_gt (Int.pow_pos (by decide)))
  have a1 : k % 2 ^ (63 - t) < 2 ^ (63 - t) := Int.emod_lt_of_pos _ (Int.pow_pos (by decide))
  have a2 : k % 2 ^ (63 - t) * 2 ^ (t + 1) ≤ (2 ^ (63 - t) - 1) * 2 ^ (t + 1) := Int.mul_le_mul_of_nonneg_right (by omega) (Int.le_of_lt (Int.pow_pos (by decide)))
  have a3 : ((2 : Int) ^ (63 - t) - 1) * 2 ^ (t + 1) = B - 2 ^ (t + 1) := by rw [Int.sub_mul, Int.one_mul, eB, Int.mul_comm]
  have a4 : 0 ≤ k % 2 ^ (63 - t) * 2 ^ (t + 1) := Int.mul_nonneg a0 (Int.le_of_lt (Int.pow_pos (by decide)))
  have b1 : (1 : Int) * 2 ^ t % B = 2 ^ t := by rw [Int.one_mul]; exact Int.emod_eq_of_lt (Int.le_of_lt hp) (by omega)
  have e4 : (u + 2 ^ t) % B = u % B + 2 ^ t := by
    rw [Int.add_emod, Int.emod_eq_of_lt (a := 2 ^ t) (Int.le_of_lt hp) (by omega), e3]
    exact Int.emod_eq_of_lt (by omega) (by omega)
  rw [e1, e2, e4, b1, e3]
  exact oru (t + 1) _ rfl a0 (Int.le_of_lt hp) (by omega) (by omega)
theorem q_upd (hn : 0 ≤ n) (h : Above q n) : L8 (upd (lim q) (n / 64).toNat (lim (q + 2 ^ n.toNat) (n / 64).toNat)) = Wl (q + 2 ^ n.toNat) := by
  obtain ⟨u, k, hk, hu, hq⟩ := above_shape hn h
  have ht : (n % 64).toNat ≤ 63 := by omega
  have hpw := pow_shape hn
  generalize (n % 64).toNat = t at *
  generalize (n / 64).toNat = m at *
  have hB := Bpow_pos m
  have hp : (0 : Int) < 2 ^ t := Int.pow_pos (by decide)
  have hp1 : (2 : Int) ^ (t + 1) = 2 ^ t * 2 := Int.pow_succ _ _
  have eB : B = 2 ^ (t + 1) * 2 ^ (63 - t) := by rw [← Int.pow_add, show t + 1 + (63 - t) = 64 by omega]; rfl
  have hq2 : q + 2 ^ n.toNat = (u + 2 ^ t) * B ^ m := by rw [hq, hpw, ← Int.add_mul]
  have huB : (u + 2 ^ t) / B = u / B := by
    have hpp : (0 : Int) < 2 ^ (t + 1) := Int.pow_pos (by decide)
    rw [eB, ← Int.ediv_ediv_of_nonneg (Int.le_of_lt hpp), ← Int.ediv_ediv_of_nonneg (Int.le_of_lt hpp)]
    congr 1
    rw [hu, Int.add_comm, Int.add_mul_ediv_right _ _ (Int.ne_of_gt hpp), Int.mul_ediv_cancel _ (Int.ne_of_gt hpp), Int.ediv_eq_zero_of_lt (Int.le_of_lt hp) (by omega), Int.zero_add]
  refine L8_congr fun j _ => ?_
  simp only [upd]
  split
  · rename_i hj; rw [hj]
  · rename_i hj
    rw [hq2, hq, lim_pow, lim_pow]
    split
    · rfl
    · obtain ⟨d, hd⟩ : ∃ d, j - m = d + 1 := ⟨j - m - 1, by omega⟩
      rw [hd]
      simp only [lim]
      rw [Int.pow_succ, Int.mul_comm _ B, ← Int.ediv_ediv_of_nonneg (Int.le_of_lt B_pos), ← Int.ediv_ediv_of_nonneg (Int.le_of_lt B_pos), huB]
theorem above_down (hn : 0 ≤ n) (h : Above q n) : Above q (n - 1) ∧ Above (q + 2 ^ n.toNat) (n - 1) := by
  obtain ⟨h0, k, hk⟩ := h
  have hp : (0 : Int) < 2 ^ n.toNat := Int.pow_pos (by decide)
  have e : (n - 1 + 1).toNat = n.toNat := by omega
  have e2 : (2 : Int) ^ (n + 1).toNat = 2 ^ n.toNat * 2 := by rw [show (n + 1).toNat = n.toNat + 1 by omega, Int.pow_succ]
  refine ⟨⟨h0, 2 * k, ?_⟩, by omega, 2 * k + 1, ?_⟩
  · rw [e, hk, e2]; grind
  · rw [e, hk, e2]; grind
end

/-- What is known when bits n and below are still to be found. -/
structure PI (a b q r s n : Int) : Prop where
  up : Above q n
  eq : a = q * b + r
  r0 : 0 ≤ r
  r1 : r < b * 2 ^ (n + 1).toNat
  s0 : 0 ≤ s
  s1 : s < B ^ 8
  hs : 0 ≤ n → s = b * 2 ^ n.toNat
section
variable {a b q r s n : Int}
theorem PI.start (ha0 : 0 ≤ a) (ha : a < B ^ 8) (hb : 1 ≤ b) (hn : blen a - blen b = n) (h0 : 0 ≤ n) : PI a b 0 a (b * 2 ^ n.toNat) n := by
  obtain ⟨b0, b1⟩ := blen_le (n := b) (by omega)
  have b2 := lt_blen (n := b) (by omega)
  have a2 := lt_blen ha0
  have hp : (0 : Int) < 2 ^ n.toNat := Int.pow_pos (by decide)
  have e1 : (2 : Int) ^ (blen a).toNat = 2 ^ (blen b - 1).toNat * 2 ^ (n + 1).toNat := by rw [← Int.pow_add]; congr 1; omega
  have e2 : (2 : Int) ^ (blen a).toNat = 2 ^ (blen b).toNat * 2 ^ n.toNat := by rw [← Int.pow_add]; congr 1; omega
  have f1 : (2 : Int) ^ (blen b - 1).toNat * 2 ^ (n + 1).toNat ≤ b * 2 ^ (n + 1).toNat := Int.mul_le_mul_of_nonneg_right b1 (Int.le_of_lt (Int.pow_pos (by decide)))
  have f2 : b * 2 ^ n.toNat < 2 ^ (blen b).toNat * 2 ^ n.toNat := Int.mul_lt_mul_of_pos_right b2 hp
  have l1 : blen a ≤ 512 := by
    have := blen_mono ha0 (show a ≤ B ^ 8 - 1 by omega)
    rwa [show blen (B ^ 8 - 1) = 512 from by decide +kernel] at this
  have f3 : (2 : Int) ^ (blen a).toNat ≤ B ^ 8 := by
    obtain ⟨d, hd⟩ : ∃ d, 512 = (blen a).toNat + d := ⟨512 - (blen a).toNat, by omega⟩
    have e3 : B ^ 8 = 2 ^ (blen a).toNat * 2 ^ d := by rw [← Int.pow_add, ← hd]; decide +kernel
    have e4 : (1 : Int) ≤ 2 ^ d := Int.pow_pos (by decide)
    have e5 : (0 : Int) ≤ 2 ^ (blen a).toNat := Int.le_of_lt (Int.pow_pos (by decide))
    have := Int.mul_le_mul_of_nonneg_left e4 e5
    omega
  exact ⟨⟨Int.le_refl 0, 0, by rw [Int.zero_mul]⟩, by omega, ha0, by omega, Int.mul_nonneg (by omega) (Int.le_of_lt hp), by omega, fun _ => rfl⟩
theorem PI.half (h : PI a b q r s n) (hn : 0 ≤ n) : 0 ≤ n - 1 → s / 2 = b * 2 ^ (n - 1).toNat := by
  intro h1
  rw [h.hs hn, show n.toNat = (n - 1).toNat + 1 by omega, Int.pow_succ, ← Int.mul_assoc]
  exact Int.mul_ediv_cancel _ (by decide)
theorem PI.less (h : PI a b q r s n) (hn : 0 ≤ n) (hr : r < s) : PI a b q r (s / 2) (n - 1) :=
  ⟨(above_down hn h.up).1, h.eq, h.r0, by rw [show (n - 1 + 1).toNat = n.toNat by omega, ← h.hs hn]; exact hr, by have := h.s0; omega, by have := h.s0; have := h.s1; omega, h.half hn⟩
theorem PI.more (h : PI a b q r s n) (hn : 0 ≤ n) (hr : s ≤ r) : PI a b (q + 2 ^ n.toNat) (r - s) (s / 2) (n - 1) := by
  have hs := h.hs hn
  have e2 : (2 : Int) ^ (n + 1).toNat = 2 ^ n.toNat * 2 := by rw [show (n + 1).toNat = n.toNat + 1 by omega, Int.pow_succ]
  have r1 := h.r1
  rw [e2, ← Int.mul_assoc, ← hs] at r1
  refine ⟨(above_down hn h.up).2, ?_, by omega, by rw [show (n - 1 + 1).toNat = n.toNat by omega, ← hs]; omega, by have := h.s0; omega, by have := h.s0; have := h.s1; omega, h.half hn⟩
  rw [Int.add_mul, Int.mul_comm (2 ^ n.toNat) b, ← hs]
  have := h.eq
  omega
theorem PI.done (h : PI a b q r s (-1)) : q = a / b ∧ r = a % b := by
  have r1 := h.r1
  have r0 := h.r0
  rw [show ((-1 : Int) + 1).toNat = 0 by omega, Int.pow_zero, Int.mul_one] at r1
  have e := h.eq
  have hb : 0 < b := by omega
  subst e
  constructor
  · rw [Int.add_comm, Int.add_mul_ediv_right _ _ (by omega), Int.ediv_eq_zero_of_lt r0 r1]; omega
  · rw [Int.add_comm, Int.add_mul_emod_self_right, Int.emod_eq_of_lt r0 r1]
end
end Go.NP

/-
  What the walks ask of the program: types, functions. Written by typegen.py.
-/
namespace Go.Proofs.YtomdahjakkifbaaGreat
open Go Go.NP Go.Proofs
set_option maxRecDepth 100000
theorem mixed : Tryz.prog.follows .mixedOrders = true := by kernel_rfl
theorem one2 : OneT Tryz.prog 2 := by unfold OneT; kernel_rfl
theorem one3 : OneT Tryz.prog 3 := by unfold OneT; kernel_rfl
theorem one4 : OneT Tryz.prog 4 := by unfold OneT; kernel_rfl
theorem one22 : OneT Tryz.prog 22 := by unfold OneT; kernel_rfl
theorem one24 : OneT Tryz.prog 24 := by unfold OneT; kernel_rfl
theorem one28 : OneT Tryz.prog 28 := by unfold OneT; kernel_rfl
theorem one34 : OneT Tryz.prog 34 := by unfold OneT; kernel_rfl
theorem one106 : OneT Tryz.prog 106 := by unfold OneT; kernel_rfl
theorem one139 : OneT Tryz.prog 139 := by unfold OneT; kernel_rfl
theorem one176 : OneT Tryz.prog 176 := by unfold OneT; kernel_rfl
theorem agg29 : Agg Tryz.prog 29 8 := ⟨by kernel_rfl, by kernel_rfl⟩
theorem agg31 : Agg Tryz.prog 31 8 := ⟨by kernel_rfl, by kernel_rfl⟩
theorem agg33 : Agg Tryz.prog 33 24 := ⟨by kernel_rfl, by kernel_rfl⟩
theorem agg36 : Agg Tryz.prog 36 33 := ⟨by kernel_rfl, by kernel_rfl⟩
theorem agg47 : Agg Tryz.prog 47 3 := ⟨by kernel_rfl, by kernel_rfl⟩
theorem agg53 : Agg Tryz.prog 53 6 := ⟨by kernel_rfl, by kernel_rfl⟩
theorem agg71 : Agg Tryz.prog 71 8 := ⟨by kernel_rfl, by kernel_rfl⟩
theorem agg141 : Agg Tryz.prog 141 24 := ⟨by kernel_rfl, by kernel_rfl⟩
theorem siz2 : Siz Tryz.prog 2 1 := by unfold Siz; kernel_rfl
theorem siz3 : Siz Tryz.prog 3 1 := by unfold Siz; kernel_rfl
theorem siz4 : Siz Tryz.prog 4 1 := by unfold Siz; kernel_rfl
theorem siz22 : Siz Tryz.prog 22 1 := by unfold Siz; kernel_rfl
theorem siz24 : Siz Tryz.prog 24 1 := by unfold Siz; kernel_rfl
theorem siz28 : Siz Tryz.prog 28 1 := by unfold Siz; kernel_rfl
theorem siz31 : Siz Tryz.prog 31 8 := by unfold Siz; kernel_rfl
theorem siz33 : Siz Tryz.prog 33 24 := by unfold Siz; kernel_rfl
theorem siz34 : Siz Tryz.prog 34 1 := by unfold Siz; kernel_rfl
theorem siz36 : Siz Tryz.prog 36 33 := by unfold Siz; kernel_rfl
theorem siz47 : Siz Tryz.prog 47 3 := by unfold Siz; kernel_rfl
theorem siz53 : Siz Tryz.prog 53 6 := by unfold Siz; kernel_rfl
theorem siz71 : Siz Tryz.prog 71 8 := by unfold Siz; kernel_rfl
theorem siz139 : Siz Tryz.prog 139 1 := by unfold Siz; kernel_rfl
theorem siz176 : Siz Tryz.prog 176 1 := by unfold Siz; kernel_rfl
theorem zer3 : Zer Tryz.prog 3 (.int .i64 0) := by unfold Zer; kernel_rfl
theorem zer4 : Zer Tryz.prog 4 (.bool false) := by unfold Zer; kernel_rfl
theorem zer24 : Zer Tryz.prog 24 (.int .i64 0) := by unfold Zer; kernel_rfl
theorem zer31 : Zer Tryz.prog 31 (.agg [.int .u64 0, .int .u64 0, .int .u64 0, .int .u64 0, .int .u64 0, .int .u64 0, .int .u64 0, .int .u64 0].toArray) := by unfold Zer; kernel_rfl
theorem zer33 : Zer Tryz.prog 33 (.agg [.int .u64 0, .int .u64 0, .int .u64 0, .int .u64 0, .int .u64 0, .int .u64 0, .int .u64 0, .int .u64 0, .int .u64 0, .int .u64 0, .int .u64 0, .int .u64 0, .int .u64 0, .int .u64 0, .int .u64 0, .int .u64 0, .int .u64 0, .int .u64 0, .int .u64 0, .int .u64 0, .int .u64 0, .int .u64 0, .int .u64 0, .int .u64 0].toArray) := by unfold Zer; kernel_rfl
theorem zer36 : Zer Tryz.prog 36 (.agg [.int .u64 0, .int .u64 0, .int .u64 0, .int .u64 0, .int .u64 0, .int .u64 0, .int .u64 0, .int .u64 0, .int .u64 0, .int .u64 0, .int .u64 0, .int .u64 0, .int .u64 0, .int .u64 0, .int .u64 0, .int .u64 0, .int .u64 0, .int .u64 0, .int .u64 0, .int .u64 0, .int .u64 0, .int .u64 0, .int .u64 0, .int .u64 0, .int .u64 0, .int .u64 0, .int .u64 0, .int .u64 0, .int .u64 0, .int .u64 0, .int .u64 0, .int .u64 0, .slice none 0 0].toArray) := by unfold Zer; kernel_rfl
theorem zer47 : Zer Tryz.prog 47 (.agg [.int .i64 0, .int .i64 0, .int .i64 0].toArray) := by unfold Zer; kernel_rfl
theorem zer53 : Zer Tryz.prog 53 (.agg [.int .i64 0, .int .i64 0, .int .i64 0, .int .i64 0, .int .i64 0, .int .i64 0].toArray) := by unfold Zer; kernel_rfl
theorem zer71 : Zer Tryz.prog 71 (.agg [.int .u64 0, .int .u64 0, .int .u64 0, .int .u64 0, .int .u64 0, .int .u64 0, .int .u64 0, .int .u64 0].toArray) := by unfold Zer; kernel_rfl
theorem zer134 : Zer Tryz.prog 134 (.agg [.slice none 0 0].toArray) := by unfold Zer; kernel_rfl
theorem zer137 : Zer Tryz.prog 137 (.agg [.int .i64 0, .int .i64 0, .int .i64 0, .int .i64 0, .int .i64 0, .int .i64 0, .int .i64 0, .int .i64 0, .int .i64 0].toArray) := by unfold Zer; kernel_rfl
theorem zer139 : Zer Tryz.prog 139 (.nilFunc) := by unfold Zer; kernel_rfl
theorem zer141 : Zer Tryz.prog 141 (.agg [.int .u64 0, .int .u64 0, .int .u64 0, .int .u64 0, .int .u64 0, .int .u64 0, .int .u64 0, .int .u64 0, .int .u64 0, .int .u64 0, .int .u64 0, .int .u64 0, .int .u64 0, .int .u64 0, .int .u64 0, .int .u64 0, .int .u64 0, .int .u64 0, .int .u64 0, .int .u64 0, .int .u64 0, .int .u64 0, .int .u64 0, .int .u64 0].toArray) := by unfold Zer; kernel_rfl
theorem zer176 : Zer Tryz.prog 176 (.int .u64 0) := by unfold Zer; kernel_rfl
theorem fld31_0 : Fld Tryz.prog 31 0 0 := ⟨_, _, Tryz.underlying31, rfl, rfl, 7, by kernel_rfl⟩
theorem fld33_0 : Fld Tryz.prog 33 0 0 := ⟨_, _, Tryz.underlying33, rfl, rfl, 7, by kernel_rfl⟩
theorem fld33_1 : Fld Tryz.prog 33 1 8 := ⟨_, _, Tryz.underlying33, rfl, rfl, 7, by kernel_rfl⟩
theorem fld33_2 : Fld Tryz.prog 33 2 16 := ⟨_, _, Tryz.underlying33, rfl, rfl, 7, by kernel_rfl⟩
theorem fld36_0 : Fld Tryz.prog 36 0 0 := ⟨_, _, Tryz.underlying36, rfl, rfl, 23, by kernel_rfl⟩
theorem fld36_1 : Fld Tryz.prog 36 1 24 := ⟨_, _, Tryz.underlying36, rfl, rfl, 7, by kernel_rfl⟩
theorem fld36_2 : Fld Tryz.prog 36 2 32 := ⟨_, _, Tryz.underlying36, rfl, rfl, 0, by kernel_rfl⟩
theorem fld47_0 : Fld Tryz.prog 47 0 0 := ⟨_, _, Tryz.underlying47, rfl, rfl, 0, by kernel_rfl⟩
theorem fld47_1 : Fld Tryz.prog 47 1 1 := ⟨_, _, Tryz.underlying47, rfl, rfl, 0, by kernel_rfl⟩
theorem fld47_2 : Fld Tryz.prog 47 2 2 := ⟨_, _, Tryz.underlying47, rfl, rfl, 0, by kernel_rfl⟩
theorem fld53_0 : Fld Tryz.prog 53 0 0 := ⟨_, _, Tryz.underlying53, rfl, rfl, 2, by kernel_rfl⟩
theorem fld53_1 : Fld Tryz.prog 53 1 3 := ⟨_, _, Tryz.underlying53, rfl, rfl, 2, by kernel_rfl⟩
theorem fld134_0 : Fld Tryz.prog 134 0 0 := ⟨_, _, Tryz.underlying134, rfl, rfl, 0, by kernel_rfl⟩
theorem arr29 : Arr Tryz.prog 29 28 8 1 := ⟨Tryz.underlying29, by kernel_rfl⟩
theorem arr61 : Arr Tryz.prog 61 24 3 1 := ⟨Tryz.underlying61, by kernel_rfl⟩
theorem arr66 : Arr Tryz.prog 66 2 3 1 := ⟨Tryz.underlying66, by kernel_rfl⟩
theorem arr71 : Arr Tryz.prog 71 28 8 1 := ⟨Tryz.underlying71, by kernel_rfl⟩
theorem arr137 : Arr Tryz.prog 137 47 3 3 := ⟨Tryz.underlying137, by kernel_rfl⟩
theorem arr141 : Arr Tryz.prog 141 31 3 8 := ⟨Tryz.underlying141, by kernel_rfl⟩
theorem slc22 : Slc Tryz.prog 22 47 3 := ⟨Tryz.underlying22, by kernel_rfl⟩
theorem slc34 : Slc Tryz.prog 34 3 1 := ⟨Tryz.underlying34, by kernel_rfl⟩
theorem slc91 : Slc Tryz.prog 91 53 6 := ⟨Tryz.underlying91, by kernel_rfl⟩
theorem slc104 : Slc Tryz.prog 104 34 1 := ⟨Tryz.underlying104, by kernel_rfl⟩
theorem slc106 : Slc Tryz.prog 106 31 8 := ⟨Tryz.underlying106, by kernel_rfl⟩
theorem slc145 : Slc Tryz.prog 145 106 1 := ⟨Tryz.underlying145, by kernel_rfl⟩
theorem elt22 : Elt Tryz.prog 22 47 (.agg #[.int .i64 0, .int .i64 0, .int .i64 0]) 3 24 := ⟨Tryz.underlying22, by kernel_rfl, by kernel_rfl, by decide⟩
theorem elt34 : Elt Tryz.prog 34 3 (.int .i64 0) 1 8 := ⟨Tryz.underlying34, by kernel_rfl, by kernel_rfl, by decide⟩
theorem elt91 : Elt Tryz.prog 91 53 (.agg #[.int .i64 0, .int .i64 0, .int .i64 0, .int .i64 0, .int .i64 0, .int .i64 0]) 6 48 := ⟨Tryz.underlying91, by kernel_rfl, by kernel_rfl, by decide⟩
theorem elt104 : Elt Tryz.prog 104 34 (.slice none 0 0) 1 24 := ⟨Tryz.underlying104, by kernel_rfl, by kernel_rfl, by decide⟩
theorem elt106 : Elt Tryz.prog 106 31 (.agg #[.int .u64 0, .int .u64 0, .int .u64 0, .int .u64 0, .int .u64 0, .int .u64 0, .int .u64 0, .int .u64 0]) 8 64 := ⟨Tryz.underlying106, by kernel_rfl, by kernel_rfl, by decide⟩
theorem elt145 : Elt Tryz.prog 145 106 (.slice none 0 0) 1 24 := ⟨Tryz.underlying145, by kernel_rfl, by kernel_rfl, by decide⟩
theorem bool4 : BoolT Tryz.prog 4 := by unfold BoolT; kernel_rfl
theorem conv2_28 : ConvI Tryz.prog 2 28 .u64 := ⟨_, Tryz.underlying2, Tryz.underlying28⟩
theorem conv3_28 : ConvI Tryz.prog 3 28 .u64 := ⟨_, Tryz.underlying3, Tryz.underlying28⟩
theorem conv3_72 : ConvI Tryz.prog 3 72 .u64 := ⟨_, Tryz.underlying3, Tryz.underlying72⟩
theorem conv3_176 : ConvI Tryz.prog 3 176 .u64 := ⟨_, Tryz.underlying3, Tryz.underlying176⟩
theorem conv5_3 : ConvI Tryz.prog 5 3 .i64 := ⟨_, Tryz.underlying5, Tryz.underlying3⟩
theorem conv28_3 : ConvI Tryz.prog 28 3 .i64 := ⟨_, Tryz.underlying28, Tryz.underlying3⟩
theorem conv28_5 : ConvI Tryz.prog 28 5 .u8 := ⟨_, Tryz.underlying28, Tryz.underlying5⟩
theorem conv72_3 : ConvI Tryz.prog 72 3 .i64 := ⟨_, Tryz.underlying72, Tryz.underlying3⟩
theorem conv72_166 : ConvI Tryz.prog 72 166 .u32 := ⟨_, Tryz.underlying72, Tryz.underlying166⟩
theorem conv166_5 : ConvI Tryz.prog 166 5 .u8 := ⟨_, Tryz.underlying166, Tryz.underlying5⟩
theorem ent3 : Ent Tryz.prog 3 := ⟨Tryz.f3, Tryz.func3, by kernel_rfl, by kernel_rfl⟩
theorem ent4 : Ent Tryz.prog 4 := ⟨Tryz.f4, Tryz.func4, by kernel_rfl, by kernel_rfl⟩
theorem ent5 : Ent Tryz.prog 5 := ⟨Tryz.f5, Tryz.func5, by kernel_rfl, by kernel_rfl⟩
theorem ent6 : Ent Tryz.prog 6 := ⟨Tryz.f6, Tryz.func6, by kernel_rfl, by kernel_rfl⟩
theorem ent7 : Ent Tryz.prog 7 := ⟨Tryz.f7, Tryz.func7, by kernel_rfl, by kernel_rfl⟩
theorem ent8 : Ent Tryz.prog 8 := ⟨Tryz.f8, Tryz.func8, by kernel_rfl, by kernel_rfl⟩
theorem ent9 : Ent Tryz.prog 9 := ⟨Tryz.f9, Tryz.func9, by kernel_rfl, by kernel_rfl⟩
theorem ent10 : Ent Tryz.prog 10 := ⟨Tryz.f10, Tryz.func10, by kernel_rfl, by kernel_rfl⟩
theorem ent11 : Ent Tryz.prog 11 := ⟨Tryz.f11, Tryz.func11, by kernel_rfl, by kernel_rfl⟩
theorem ent12 : Ent Tryz.prog 12 := ⟨Tryz.f12, Tryz.func12, by kernel_rfl, by kernel_rfl⟩
theorem ent13 : Ent Tryz.prog 13 := ⟨Tryz.f13, Tryz.func13, by kernel_rfl, by kernel_rfl⟩
theorem ent14 : Ent Tryz.prog 14 := ⟨Tryz.f14, Tryz.func14, by kernel_rfl, by kernel_rfl⟩
theorem ent15 : Ent Tryz.prog 15 := ⟨Tryz.f15, Tryz.func15, by kernel_rfl, by kernel_rfl⟩
theorem ent16 : Ent Tryz.prog 16 := ⟨Tryz.f16, Tryz.func16, by kernel_rfl, by kernel_rfl⟩
theorem ent17 : Ent Tryz.prog 17 := ⟨Tryz.f17, Tryz.func17, by kernel_rfl, by kernel_rfl⟩
theorem ent18 : Ent Tryz.prog 18 := ⟨Tryz.f18, Tryz.func18, by kernel_rfl, by kernel_rfl⟩
theorem ent19 : Ent Tryz.prog 19 := ⟨Tryz.f19, Tryz.func19, by kernel_rfl, by kernel_rfl⟩
theorem ent20 : Ent Tryz.prog 20 := ⟨Tryz.f20, Tryz.func20, by kernel_rfl, by kernel_rfl⟩
theorem ent21 : Ent Tryz.prog 21 := ⟨Tryz.f21, Tryz.func21, by kernel_rfl, by kernel_rfl⟩
theorem ent22 : Ent Tryz.prog 22 := ⟨Tryz.f22, Tryz.func22, by kernel_rfl, by kernel_rfl⟩
theorem ent23 : Ent Tryz.prog 23 := ⟨Tryz.f23, Tryz.func23, by kernel_rfl, by kernel_rfl⟩
theorem ent24 : Ent Tryz.prog 24 := ⟨Tryz.f24, Tryz.func24, by kernel_rfl, by kernel_rfl⟩
theorem ent25 : Ent Tryz.prog 25 := ⟨Tryz.f25, Tryz.func25, by kernel_rfl, by kernel_rfl⟩
theorem ent26 : Ent Tryz.prog 26 := ⟨Tryz.f26, Tryz.func26, by kernel_rfl, by kernel_rfl⟩
theorem ent27 : Ent Tryz.prog 27 := ⟨Tryz.f27, Tryz.func27, by kernel_rfl, by kernel_rfl⟩
theorem ent28 : Ent Tryz.prog 28 := ⟨Tryz.f28, Tryz.func28, by kernel_rfl, by kernel_rfl⟩
theorem ent29 : Ent Tryz.prog 29 := ⟨Tryz.f29, Tryz.func29, by kernel_rfl, by kernel_rfl⟩
theorem ent30 : Ent Tryz.prog 30 := ⟨Tryz.f30, Tryz.func30, by kernel_rfl, by kernel_rfl⟩
theorem ent31 : Ent Tryz.prog 31 := ⟨Tryz.f31, Tryz.func31, by kernel_rfl, by kernel_rfl⟩
theorem ent32 : Ent Tryz.prog 32 := ⟨Tryz.f32, Tryz.func32, by kernel_rfl, by kernel_rfl⟩
theorem ent33 : Ent Tryz.prog 33 := ⟨Tryz.f33, Tryz.func33, by kernel_rfl, by kernel_rfl⟩
theorem ent34 : Ent Tryz.prog 34 := ⟨Tryz.f34, Tryz.func34, by kernel_rfl, by kernel_rfl⟩
theorem ent35 : Ent Tryz.prog 35 := ⟨Tryz.f35, Tryz.func35, by kernel_rfl, by kernel_rfl⟩
theorem ent36 : Ent Tryz.prog 36 := ⟨Tryz.f36, Tryz.func36, by kernel_rfl, by kernel_rfl⟩
theorem ent37 : Ent Tryz.prog 37 := ⟨Tryz.f37, Tryz.func37, by kernel_rfl, by kernel_rfl⟩
theorem ent38 : Ent Tryz.prog 38 := ⟨Tryz.f38, Tryz.func38, by kernel_rfl, by kernel_rfl⟩
theorem ent39 : Ent Tryz.prog 39 := ⟨Tryz.f39, Tryz.func39, by kernel_rfl, by kernel_rfl⟩
theorem ent40 : Ent Tryz.prog 40 := ⟨Tryz.f40, Tryz.func40, by kernel_rfl, by kernel_rfl⟩
theorem ent41 : Ent Tryz.prog 41 := ⟨Tryz.f41, Tryz.func41, by kernel_rfl, by kernel_rfl⟩
theorem ent42 : Ent Tryz.prog 42 := ⟨Tryz.f42, Tryz.func42, by kernel_rfl, by kernel_rfl⟩
theorem ent43 : Ent Tryz.prog 43 := ⟨Tryz.f43, Tryz.func43, by kernel_rfl, by kernel_rfl⟩
theorem ent44 : Ent Tryz.prog 44 := ⟨Tryz.f44, Tryz.func44, by kernel_rfl, by kernel_rfl⟩
theorem ent45 : Ent Tryz.prog 45 := ⟨Tryz.f45, Tryz.func45, by kernel_rfl, by kernel_rfl⟩
theorem ent46 : Ent Tryz.prog 46 := ⟨Tryz.f46, Tryz.func46, by kernel_rfl, by kernel_rfl⟩
theorem ent47 : Ent Tryz.prog 47 := ⟨Tryz.f47, Tryz.func47, by kernel_rfl, by kernel_rfl⟩
theorem ent48 : Ent Tryz.prog 48 := ⟨Tryz.f48, Tryz.func48, by kernel_rfl, by kernel_rfl⟩
theorem ent49 : Ent Tryz.prog 49 := ⟨Tryz.f49, Tryz.func49, by kernel_rfl, by kernel_rfl⟩
theorem ent50 : Ent Tryz.prog 50 := ⟨Tryz.f50, Tryz.func50, by kernel_rfl, by kernel_rfl⟩
theorem ent51 : Ent Tryz.prog 51 := ⟨Tryz.f51, Tryz.func51, by kernel_rfl, by kernel_rfl⟩
theorem ent52 : Ent Tryz.prog 52 := ⟨Tryz.f52, Tryz.func52, by kernel_rfl, by kernel_rfl⟩
theorem ent53 : Ent Tryz.prog 53 := ⟨Tryz.f53, Tryz.func53, by kernel_rfl, by kernel_rfl⟩
theorem ent54 : Ent Tryz.prog 54 := ⟨Tryz.f54, Tryz.func54, by kernel_rfl, by kernel_rfl⟩
theorem ent55 : Ent Tryz.prog 55 := ⟨Tryz.f55, Tryz.func55, by kernel_rfl, by kernel_rfl⟩
theorem ent56 : Ent Tryz.prog 56 := ⟨Tryz.f56, Tryz.func56, by kernel_rfl, by kernel_rfl⟩
theorem ent57 : Ent Tryz.prog 57 := ⟨Tryz.f57, Tryz.func57, by kernel_rfl, by kernel_rfl⟩
theorem ent58 : Ent Tryz.prog 58 := ⟨Tryz.f58, Tryz.func58, by kernel_rfl, by kernel_rfl⟩
theorem ent59 : Ent Tryz.prog 59 := ⟨Tryz.f59, Tryz.func59, by kernel_rfl, by kernel_rfl⟩
theorem ent60 : Ent Tryz.prog 60 := ⟨Tryz.f60, Tryz.func60, by kernel_rfl, by kernel_rfl⟩
theorem ent61 : Ent Tryz.prog 61 := ⟨Tryz.f61, Tryz.func61, by kernel_rfl, by kernel_rfl⟩
theorem ent62 : Ent Tryz.prog 62 := ⟨Tryz.f62, Tryz.func62, by kernel_rfl, by kernel_rfl⟩
theorem ent63 : Ent Tryz.prog 63 := ⟨Tryz.f63, Tryz.func63, by kernel_rfl, by kernel_rfl⟩
theorem ent64 : Ent Tryz.prog 64 := ⟨Tryz.f64, Tryz.func64, by kernel_rfl, by kernel_rfl⟩
theorem ent65 : Ent Tryz.prog 65 := ⟨Tryz.f65, Tryz.func65, by kernel_rfl, by kernel_rfl⟩
theorem ent66 : Ent Tryz.prog 66 := ⟨Tryz.f66, Tryz.func66, by kernel_rfl, by kernel_rfl⟩
theorem ent67 : Ent Tryz.prog 67 := ⟨Tryz.f67, Tryz.func67, by kernel_rfl, by kernel_rfl⟩
theorem ent68 : Ent Tryz.prog 68 := ⟨Tryz.f68, Tryz.func68, by kernel_rfl, by kernel_rfl⟩
theorem ent69 : Ent Tryz.prog 69 := ⟨Tryz.f69, Tryz.func69, by kernel_rfl, by kernel_rfl⟩
theorem ent70 : Ent Tryz.prog 70 := ⟨Tryz.f70, Tryz.func70, by kernel_rfl, by kernel_rfl⟩
theorem ent71 : Ent Tryz.prog 71 := ⟨Tryz.f71, Tryz.func71, by kernel_rfl, by kernel_rfl⟩
theorem ent72 : Ent Tryz.prog 72 := ⟨Tryz.f72, Tryz.func72, by kernel_rfl, by kernel_rfl⟩
theorem ent73 : Ent Tryz.prog 73 := ⟨Tryz.f73, Tryz.func73, by kernel_rfl, by kernel_rfl⟩
theorem ent74 : Ent Tryz.prog 74 := ⟨Tryz.f74, Tryz.func74, by kernel_rfl, by kernel_rfl⟩
theorem ent75 : Ent Tryz.prog 75 := ⟨Tryz.f75, Tryz.func75, by kernel_rfl, by kernel_rfl⟩
theorem ent76 : Ent Tryz.prog 76 := ⟨Tryz.f76, Tryz.func76, by kernel_rfl, by kernel_rfl⟩
theorem ent77 : Ent Tryz.prog 77 := ⟨Tryz.f77, Tryz.func77, by kernel_rfl, by kernel_rfl⟩
theorem ent78 : Ent Tryz.prog 78 := ⟨Tryz.f78, Tryz.func78, by kernel_rfl, by kernel_rfl⟩
theorem ent79 : Ent Tryz.prog 79 := ⟨Tryz.f79, Tryz.func79, by kernel_rfl, by kernel_rfl⟩
theorem ent80 : Ent Tryz.prog 80 := ⟨Tryz.f80, Tryz.func80, by kernel_rfl, by kernel_rfl⟩
theorem ent81 : Ent Tryz.prog 81 := ⟨Tryz.f81, Tryz.func81, by kernel_rfl, by kernel_rfl⟩
theorem ent82 : Ent Tryz.prog 82 := ⟨Tryz.f82, Tryz.func82, by kernel_rfl, by kernel_rfl⟩
theorem ent83 : Ent Tryz.prog 83 := ⟨Tryz.f83, Tryz.func83, by kernel_rfl, by kernel_rfl⟩
theorem ent84 : Ent Tryz.prog 84 := ⟨Tryz.f84, Tryz.func84, by kernel_rfl, by kernel_rfl⟩
theorem ent85 : Ent Tryz.prog 85 := ⟨Tryz.f85, Tryz.func85, by kernel_rfl, by kernel_rfl⟩
theorem ent86 : Ent Tryz.prog 86 := ⟨Tryz.f86, Tryz.func86, by kernel_rfl, by kernel_rfl⟩
theorem ent87 : Ent Tryz.prog 87 := ⟨Tryz.f87, Tryz.func87, by kernel_rfl, by kernel_rfl⟩
theorem ent88 : Ent Tryz.prog 88 := ⟨Tryz.f88, Tryz.func88, by kernel_rfl, by kernel_rfl⟩
theorem ent89 : Ent Tryz.prog 89 := ⟨Tryz.f89, Tryz.func89, by kernel_rfl, by kernel_rfl⟩
theorem ent90 : Ent Tryz.prog 90 := ⟨Tryz.f90, Tryz.func90, by kernel_rfl, by kernel_rfl⟩
theorem ent91 : Ent Tryz.prog 91 := ⟨Tryz.f91, Tryz.func91, by kernel_rfl, by kernel_rfl⟩
theorem ent92 : Ent Tryz.prog 92 := ⟨Tryz.f92, Tryz.func92, by kernel_rfl, by kernel_rfl⟩
theorem ent93 : Ent Tryz.prog 93 := ⟨Tryz.f93, Tryz.func93, by kernel_rfl, by kernel_rfl⟩
theorem ent94 : Ent Tryz.prog 94 := ⟨Tryz.f94, Tryz.func94, by kernel_rfl, by kernel_rfl⟩
theorem ent95 : Ent Tryz.prog 95 := ⟨Tryz.f95, Tryz.func95, by kernel_rfl, by kernel_rfl⟩
theorem ent96 : Ent Tryz.prog 96 := ⟨Tryz.f96, Tryz.func96, by kernel_rfl, by kernel_rfl⟩
theorem ent97 : Ent Tryz.prog 97 := ⟨Tryz.f97, Tryz.func97, by kernel_rfl, by kernel_rfl⟩
theorem ent98 : Ent Tryz.prog 98 := ⟨Tryz.f98, Tryz.func98, by kernel_rfl, by kernel_rfl⟩
theorem ent99 : Ent Tryz.prog 99 := ⟨Tryz.f99, Tryz.func99, by kernel_rfl, by kernel_rfl⟩
theorem ent100 : Ent Tryz.prog 100 := ⟨Tryz.f100, Tryz.func100, by kernel_rfl, by kernel_rfl⟩
theorem ent101 : Ent Tryz.prog 101 := ⟨Tryz.f101, Tryz.func101, by kernel_rfl, by kernel_rfl⟩
theorem ent102 : Ent Tryz.prog 102 := ⟨Tryz.f102, Tryz.func102, by kernel_rfl, by kernel_rfl⟩
theorem ent103 : Ent Tryz.prog 103 := ⟨Tryz.f103, Tryz.func103, by kernel_rfl, by kernel_rfl⟩
theorem ent104 : Ent Tryz.prog 104 := ⟨Tryz.f104, Tryz.func104, by kernel_rfl, by kernel_rfl⟩
theorem ent105 : Ent Tryz.prog 105 := ⟨Tryz.f105, Tryz.func105, by kernel_rfl, by kernel_rfl⟩
theorem ent106 : Ent Tryz.prog 106 := ⟨Tryz.f106, Tryz.func106, by kernel_rfl, by kernel_rfl⟩
theorem ent107 : Ent Tryz.prog 107 := ⟨Tryz.f107, Tryz.func107, by kernel_rfl, by kernel_rfl⟩
theorem ent108 : Ent Tryz.prog 108 := ⟨Tryz.f108, Tryz.func108, by kernel_rfl, by kernel_rfl⟩
theorem ent109 : Ent Tryz.prog 109 := ⟨Tryz.f109, Tryz.func109, by kernel_rfl, by kernel_rfl⟩
theorem ent110 : Ent Tryz.prog 110 := ⟨Tryz.f110, Tryz.func110, by kernel_rfl, by kernel_rfl⟩
theorem ent111 : Ent Tryz.prog 111 := ⟨Tryz.f111, Tryz.func111, by kernel_rfl, by kernel_rfl⟩
theorem ent112 : Ent Tryz.prog 112 := ⟨Tryz.f112, Tryz.func112, by kernel_rfl, by kernel_rfl⟩
theorem ent113 : Ent Tryz.prog 113 := ⟨Tryz.f113, Tryz.func113, by kernel_rfl, by kernel_rfl⟩
theorem ent114 : Ent Tryz.prog 114 := ⟨Tryz.f114, Tryz.func114, by kernel_rfl, by kernel_rfl⟩
theorem ent115 : Ent Tryz.prog 115 := ⟨Tryz.f115, Tryz.func115, by kernel_rfl, by kernel_rfl⟩
theorem ent116 : Ent Tryz.prog 116 := ⟨Tryz.f116, Tryz.func116, by kernel_rfl, by kernel_rfl⟩
theorem ent117 : Ent Tryz.prog 117 := ⟨Tryz.f117, Tryz.func117, by kernel_rfl, by kernel_rfl⟩
theorem ent118 : Ent Tryz.prog 118 := ⟨Tryz.f118, Tryz.func118, by kernel_rfl, by kernel_rfl⟩
theorem ent119 : Ent Tryz.prog 119 := ⟨Tryz.f119, Tryz.func119, by kernel_rfl, by kernel_rfl⟩
theorem ent120 : Ent Tryz.prog 120 := ⟨Tryz.f120, Tryz.func120, by kernel_rfl, by kernel_rfl⟩
theorem ent121 : Ent Tryz.prog 121 := ⟨Tryz.f121, Tryz.func121, by kernel_rfl, by kernel_rfl⟩
theorem ent122 : Ent Tryz.prog 122 := ⟨Tryz.f122, Tryz.func122, by kernel_rfl, by kernel_rfl⟩
theorem ent123 : Ent Tryz.prog 123 := ⟨Tryz.f123, Tryz.func123, by kernel_rfl, by kernel_rfl⟩
theorem ent124 : Ent Tryz.prog 124 := ⟨Tryz.f124, Tryz.func124, by kernel_rfl, by kernel_rfl⟩
theorem ent126 : Ent Tryz.prog 126 := ⟨Tryz.f126, Tryz.func126, by kernel_rfl, by kernel_rfl⟩
theorem ent127 : Ent Tryz.prog 127 := ⟨Tryz.f127, Tryz.func127, by kernel_rfl, by kernel_rfl⟩
theorem ent128 : Ent Tryz.prog 128 := ⟨Tryz.f128, Tryz.func128, by kernel_rfl, by kernel_rfl⟩
theorem ent129 : Ent Tryz.prog 129 := ⟨Tryz.f129, Tryz.func129, by kernel_rfl, by kernel_rfl⟩
theorem ent130 : Ent Tryz.prog 130 := ⟨Tryz.f130, Tryz.func130, by kernel_rfl, by kernel_rfl⟩
theorem ent131 : Ent Tryz.prog 131 := ⟨Tryz.f131, Tryz.func131, by kernel_rfl, by kernel_rfl⟩
theorem ent132 : Ent Tryz.prog 132 := ⟨Tryz.f132, Tryz.func132, by kernel_rfl, by kernel_rfl⟩
theorem ent133 : Ent Tryz.prog 133 := ⟨Tryz.f133, Tryz.func133, by kernel_rfl, by kernel_rfl⟩
theorem ent134 : Ent Tryz.prog 134 := ⟨Tryz.f134, Tryz.func134, by kernel_rfl, by kernel_rfl⟩
theorem ent135 : Ent Tryz.prog 135 := ⟨Tryz.f135, Tryz.func135, by kernel_rfl, by kernel_rfl⟩
theorem ent136 : Ent Tryz.prog 136 := ⟨Tryz.f136, Tryz.func136, by kernel_rfl, by kernel_rfl⟩
theorem ent137 : Ent Tryz.prog 137 := ⟨Tryz.f137, Tryz.func137, by kernel_rfl, by kernel_rfl⟩
theorem ent138 : Ent Tryz.prog 138 := ⟨Tryz.f138, Tryz.func138, by kernel_rfl, by kernel_rfl⟩
theorem ent139 : Ent Tryz.prog 139 := ⟨Tryz.f139, Tryz.func139, by kernel_rfl, by kernel_rfl⟩
theorem ent140 : Ent Tryz.prog 140 := ⟨Tryz.f140, Tryz.func140, by kernel_rfl, by kernel_rfl⟩
theorem ent141 : Ent Tryz.prog 141 := ⟨Tryz.f141, Tryz.func141, by kernel_rfl, by kernel_rfl⟩
theorem ent142 : Ent Tryz.prog 142 := ⟨Tryz.f142, Tryz.func142, by kernel_rfl, by kernel_rfl⟩
theorem ent143 : Ent Tryz.prog 143 := ⟨Tryz.f143, Tryz.func143, by kernel_rfl, by kernel_rfl⟩
theorem ent144 : Ent Tryz.prog 144 := ⟨Tryz.f144, Tryz.func144, by kernel_rfl, by kernel_rfl⟩
theorem ent145 : Ent Tryz.prog 145 := ⟨Tryz.f145, Tryz.func145, by kernel_rfl, by kernel_rfl⟩
theorem ent146 : Ent Tryz.prog 146 := ⟨Tryz.f146, Tryz.func146, by kernel_rfl, by kernel_rfl⟩
theorem ent147 : Ent Tryz.prog 147 := ⟨Tryz.f147, Tryz.func147, by kernel_rfl, by kernel_rfl⟩
theorem ent148 : Ent Tryz.prog 148 := ⟨Tryz.f148, Tryz.func148, by kernel_rfl, by kernel_rfl⟩
theorem ent149 : Ent Tryz.prog 149 := ⟨Tryz.f149, Tryz.func149, by kernel_rfl, by kernel_rfl⟩
theorem ent150 : Ent Tryz.prog 150 := ⟨Tryz.f150, Tryz.func150, by kernel_rfl, by kernel_rfl⟩
theorem ent151 : Ent Tryz.prog 151 := ⟨Tryz.f151, Tryz.func151, by kernel_rfl, by kernel_rfl⟩
theorem ent152 : Ent Tryz.prog 152 := ⟨Tryz.f152, Tryz.func152, by kernel_rfl, by kernel_rfl⟩
theorem ent153 : Ent Tryz.prog 153 := ⟨Tryz.f153, Tryz.func153, by kernel_rfl, by kernel_rfl⟩
theorem ent154 : Ent Tryz.prog 154 := ⟨Tryz.f154, Tryz.func154, by kernel_rfl, by kernel_rfl⟩
theorem ent155 : Ent Tryz.prog 155 := ⟨Tryz.f155, Tryz.func155, by kernel_rfl, by kernel_rfl⟩
theorem ent156 : Ent Tryz.prog 156 := ⟨Tryz.f156, Tryz.func156, by kernel_rfl, by kernel_rfl⟩
theorem ent157 : Ent Tryz.prog 157 := ⟨Tryz.f157, Tryz.func157, by kernel_rfl, by kernel_rfl⟩
theorem ent158 : Ent Tryz.prog 158 := ⟨Tryz.f158, Tryz.func158, by kernel_rfl, by kernel_rfl⟩
theorem ent159 : Ent Tryz.prog 159 := ⟨Tryz.f159, Tryz.func159, by kernel_rfl, by kernel_rfl⟩
theorem ent160 : Ent Tryz.prog 160 := ⟨Tryz.f160, Tryz.func160, by kernel_rfl, by kernel_rfl⟩
theorem ent161 : Ent Tryz.prog 161 := ⟨Tryz.f161, Tryz.func161, by kernel_rfl, by kernel_rfl⟩
theorem ent162 : Ent Tryz.prog 162 := ⟨Tryz.f162, Tryz.func162, by kernel_rfl, by kernel_rfl⟩
theorem ent163 : Ent Tryz.prog 163 := ⟨Tryz.f163, Tryz.func163, by kernel_rfl, by kernel_rfl⟩
theorem ent164 : Ent Tryz.prog 164 := ⟨Tryz.f164, Tryz.func164, by kernel_rfl, by kernel_rfl⟩
theorem ent165 : Ent Tryz.prog 165 := ⟨Tryz.f165, Tryz.func165, by kernel_rfl, by kernel_rfl⟩
theorem ent166 : Ent Tryz.prog 166 := ⟨Tryz.f166, Tryz.func166, by kernel_rfl, by kernel_rfl⟩
theorem ent167 : Ent Tryz.prog 167 := ⟨Tryz.f167, Tryz.func167, by kernel_rfl, by kernel_rfl⟩
theorem ent168 : Ent Tryz.prog 168 := ⟨Tryz.f168, Tryz.func168, by kernel_rfl, by kernel_rfl⟩
theorem ent169 : Ent Tryz.prog 169 := ⟨Tryz.f169, Tryz.func169, by kernel_rfl, by kernel_rfl⟩
theorem ent170 : Ent Tryz.prog 170 := ⟨Tryz.f170, Tryz.func170, by kernel_rfl, by kernel_rfl⟩
theorem ent171 : Ent Tryz.prog 171 := ⟨Tryz.f171, Tryz.func171, by kernel_rfl, by kernel_rfl⟩
end Go.Proofs.YtomdahjakkifbaaGreat

/-
  Values that are built of parts.
-/
namespace Go.Proofs.YtomdahjakkifbaaGreat
open Go Go.NP Go.RowKit Go.Proofs
set_option maxRecDepth 100000
theorem bldW (g : Nat → Int) : ∀ w, (Instr.build 31 [(0, Value.agg (L8 g).toArray)].toArray).run Tryz.prog w = .ok (.agg (L8 g).toArray) w := fun w => by kernel_rfl
theorem bldWl (n : Int) : ∀ w, (Instr.build 31 [(0, Value.agg (Wl n).toArray)].toArray).run Tryz.prog w = .ok (.agg (Wl n).toArray) w := bldW _
theorem bldW0 : ∀ w, (Instr.build 31 #[]).run Tryz.prog w = .ok (.agg (Wl 0).toArray) w := fun w => by kernel_rfl
theorem bldL0 : ∀ w, (Instr.build 71 #[]).run Tryz.prog w = .ok (.agg (L8 fun _ => 0).toArray) w := fun w => by kernel_rfl
end Go.Proofs.YtomdahjakkifbaaGreat

/-
  The walks of package wide: Of, negative, above, not, plus.
-/
namespace Go.Proofs.YtomdahjakkifbaaGreat
open Go Go.NP Go.RowKit Go.Proofs
set_option maxRecDepth 100000

/-! ## Of -/
def sg (n : Int) : Int := if n < 0 then 18446744073709551615 else 0
theorem conv_shr (n : Int) (h : -9223372036854775808 ≤ n ∧ n ≤ 9223372036854775807) : Value.int .u64 (IntKind.u64.wrap (n.fdiv (2 ^ (min (63 : Int).toNat IntKind.i64.bits)))) = .int .u64 (sg n) := by
  have e : (2 : Int) ^ (min (63 : Int).toNat IntKind.i64.bits) = 9223372036854775808 := by decide
  rw [e, IntKind.wrap_u64, Int.fdiv_eq_ediv_of_nonneg _ (by omega)]
  unfold sg
  congr 1
  split <;> omega
theorem Of_limbs (n : Int) (h : -9223372036854775808 ≤ n ∧ n ≤ 9223372036854775807) : L8 (upd (fun j => if (j : Int) < 8 then sg n else 0) (0 : Int).toNat (IntKind.u64.wrap n)) = Wl n := by
  refine Wl_of (fun j hj => ?_) ?_
  · simp only [upd]
    split
    · rw [IntKind.wrap_u64]; unfold B; omega
    · rw [if_pos (by omega)]; unfold sg B; split <;> omega
  · simp only [val, upd, M512_eq, B, IntKind.wrap_u64, sg]
    by_cases h0 : n < 0 <;> simp [h0] <;> omega
theorem sg_next (n i : Int) (h0 : 0 ≤ i) : L8 (upd (fun j => if (j : Int) < i then sg n else 0) i.toNat (sg n)) = L8 (fun j => if (j : Int) < i + 1 then sg n else 0) :=
  L8_congr fun j _ => by simp only [upd]; split <;> split <;> (try split) <;> first | rfl | omega

theorem wide_Of (n : Int) (h : -9223372036854775808 ≤ n ∧ n ≤ 9223372036854775807) : PureF Tryz.prog 22 [.int .i64 n] (.agg (Wl n).toArray) := by
  refine pure_of Tryz.func22 rfl Tryz.ntmps22 rfl fun w => ?_
  refine cw_sr ?_
  refine steps_s (s_allocA 2 rfl zer31 fun b2 => ?_)  -- wide.go:17
  refine steps_nil ?_
  refine cw_sr ?_
  refine steps_s (s_allocA 3 rfl zer71 fun b3 => ?_)  -- wide.go:18
  refine steps_nil ?_
  refine cw_seq ?_
  refine cw_sr ?_
  refine steps_q rfl (q_move rfl) ?_  -- wide.go:19
  refine steps_nil ?_
  refine cw_block ?_
  -- LOOP 1 writes [4, 5, 6, 7, 8, 9, 10, 11, 12, 13]  stores via [12]  reads [0, 3]
  refine cw_loop (S := Int) (fun i => [(0, .int .i64 n), (2, .pointer (some ⟨b2, 0, none⟩)), (3, .pointer (some ⟨b3, 0, none⟩)), (5, .int .i64 i)])
    (fun i => [(2, (b2, .cells (L8 fun _ => 0).toArray 31 (0, 0))), (3, (b3, .cells (L8 fun j => if j < i then sg n else 0).toArray 71 (0, 0)))])
    (fun i => 0 ≤ i ∧ i ≤ 8) (fun i => (8 - i).toNat) 0 (by omega) (subs ⟨rfl, rfl, rfl, rfl, trivial⟩) (subs ⟨rfl, rfl, trivial⟩) ?_
  intro i hi
  refine cw_sr ?_
  refine steps_q rfl (q_bin rfl rfl rfl) ?_  -- wide.go:19
  refine steps_nil ?_
  refine cw_seq ?_
  refine cw_cond _ rfl (fun hc1 => ?_) (fun hc1 => ?_)
  · -- yes 1
    have hc : i < 8 := of_decide_eq_true hc1
    refine cw_skip ?_
    refine at_then ?_
    refine cw_seq ?_
    refine cw_block ?_
    refine cw_sr ?_
    refine steps_q rfl (q_move rfl) ?_  -- wide.go:19
    refine steps_q rfl (q_assign rfl) ?_  -- wide.go:19
    refine steps_nil ?_
    refine cw_region ?_
    refine steps_q rfl (q_move rfl) ?_  -- wide.go:20
    refine steps_q rfl (q_move rfl) ?_  -- wide.go:20
    refine steps_q rfl (q_bin rfl rfl rfl) ?_  -- wide.go:20
    refine steps_q rfl (q_conv conv2_28 rfl (conv_shr n h)) ?_  -- wide.go:20
    refine steps_q rfl (q_indexArr arr71 rfl rfl (by omega) (by omega)) ?_  -- wide.go:20
    refine steps_s (s_store1 3 siz28 rfl rfl rfl rfl rfl (L8_fit _ hi.1 hc) ((L8_wr _ hi.1 hc _).trans (sg_next n i hi.1)) ?_)  -- wide.go:20
    refine steps_nil ?_
    refine at_then ?_
    refine cw_region ?_
    refine steps_q rfl (q_bin rfl rfl (add64 (by omega) (by omega))) ?_  -- wide.go:19
    refine steps_q rfl (q_move rfl) ?_  -- wide.go:19
    refine steps_nil ?_
    exact at_round (i + 1) (by omega) (by omega) (subs ⟨rfl, rfl, rfl, rfl, trivial⟩) (subs ⟨rfl, rfl, trivial⟩)
  · -- no 1
    have hc : ¬ i < 8 := of_decide_eq_false hc1
    obtain rfl : i = 8 := by omega
    refine cw_exit ?_
    refine at_then ?_
    refine cw_sr ?_
    refine steps_q rfl (q_move rfl) ?_  -- wide.go:22
    refine steps_q rfl (q_conv conv2_28 rfl rfl) ?_  -- wide.go:22
    refine steps_q rfl (q_indexArr arr71 rfl rfl (by omega) (by omega)) ?_  -- wide.go:22
    refine steps_s (s_store1 3 siz28 rfl rfl rfl rfl rfl (L8_fit _ (by omega) (by omega)) ((L8_wr _ (by omega) (by omega) _).trans (Of_limbs n h)) ?_)  -- wide.go:22
    refine steps_nil ?_
    refine cw_sr ?_
    refine steps_q rfl (q_loadW 3 agg71 rfl rfl rfl) ?_  -- wide.go:23
    refine steps_q rfl (q_build (vs := [(0, _)]) rfl rfl (bldW _)) ?_  -- wide.go:23
    refine steps_s (s_storeW 2 siz31 rfl rfl rfl rfl rfl rfl ?_)  -- wide.go:23
    refine steps_nil ?_
    refine cw_ret ?_
    exact ret_pure rfl (rv_agg 2 agg31 rfl rfl rfl rv_nil) rfl

/-! ## negative -/
theorem neg_bit {a : Int} (h0 : 0 ≤ a) (h1 : a < B) : binI .eql .u64 (a / 9223372036854775808) .u64 1 = some (.bool (decide (9223372036854775808 ≤ a))) := by
  simp only [binI, if_true]
  unfold B at h1
  congr 2
  rw [Bool.eq_iff_iff, beq_iff_eq, decide_eq_true_iff]
  omega
theorem wide_negative (g : Nat → Int) (h : 0 ≤ g 7 ∧ g 7 < B) : PureF Tryz.prog 87 [.agg (L8 g).toArray] (.bool (decide (9223372036854775808 ≤ g 7))) := by
  refine pure_of Tryz.func87 rfl Tryz.ntmps87 rfl fun w => ?_
  refine cw_sr ?_
  refine steps_s (s_boxA 1 rfl rfl fun b1 => ?_)  -- wide.go:27
  refine steps_q rfl (q_assign rfl) ?_  -- wide.go:27
  refine steps_nil ?_
  refine cw_sr ?_
  refine steps_q rfl (q_indexArr arr71 rfl rfl (by omega) (by omega)) ?_  -- wide.go:27
  refine steps_q rfl (q_load1 1 one28 rfl rfl rfl) ?_  -- wide.go:27
  refine steps_q rfl (q_bin rfl rfl (shr63 h.1)) ?_  -- wide.go:27
  refine steps_q rfl (q_bin rfl rfl (neg_bit h.1 h.2)) ?_  -- wide.go:27
  refine steps_q rfl (q_assign rfl) ?_  -- wide.go:27
  refine steps_nil ?_
  refine cw_ret ?_
  exact ret_pure rfl (rv_tmp rfl rv_nil) rfl

/-! ## above -/
def cmpI (x y : Int) : Int := if x < y then -1 else if x = y then 0 else 1
theorem val_lt {a b : Nat → Int} (ha : Lm a) (hb : Lm b) {i : Nat} (hi : i < 8) (he : ∀ j, i < j → j < 8 → a j = b j) (hl : a i < b i) : val 8 a < val 8 b := by
  have key : ∀ n, i < n → n ≤ 8 → val n a < val n b := by
    intro n
    induction n with
    | zero => intro h; omega
    | succ n ih =>
      intro h hn
      simp only [val]
      by_cases hin : i = n
      · subst hin
        have h1 := val_bounds i (g := a) (fun j hj => ha j (by omega))
        have h2 := val_bounds i (g := b) (fun j hj => hb j (by omega))
        have h3 : (a i + 1) * B ^ i ≤ b i * B ^ i := Int.mul_le_mul_of_nonneg_right (by omega) (Int.le_of_lt (Bpow_pos i))
        rw [Int.add_mul, Int.one_mul] at h3
        omega
      · have := ih (by omega) (by omega)
        rw [he n (by omega) (by omega)]
        omega
  exact key 8 (by omega) (Nat.le_refl 8)

theorem wide_above (a b : Nat → Int) (ha : Lm a) (hb : Lm b) : PureF Tryz.prog 92 [.agg (L8 a).toArray, .agg (L8 b).toArray] (.int .i64 (cmpI (val 8 a) (val 8 b))) := by
  refine pure_of Tryz.func92 rfl Tryz.ntmps92 rfl fun w => ?_
  refine cw_sr ?_
  refine steps_s (s_boxA 2 rfl rfl fun b2 => ?_)  -- wide.go:61
  refine steps_s (s_boxA 3 rfl rfl fun b3 => ?_)  -- wide.go:61
  refine steps_q rfl (q_assign rfl) ?_  -- wide.go:61
  refine steps_nil ?_
  refine cw_seq ?_
  refine cw_sr ?_
  refine steps_q rfl (q_assign rfl) ?_  -- wide.go:62
  refine steps_nil ?_
  refine cw_block ?_
  -- LOOP 1 writes [5, 6, 7, 8, 9, 10, 11, 12, 13, 14, 15, 16, 17, 18, 19, 20, 21, 22, 23]  stores via []  reads [2, 3]
  refine cw_loop (S := Int) (fun i => [(2, .pointer (some ⟨b2, 0, none⟩)), (3, .pointer (some ⟨b3, 0, none⟩)), (5, .int .i64 i)])
    (fun _ => [(2, (b2, .cells (L8 a).toArray 71 (0, 0))), (3, (b3, .cells (L8 b).toArray 71 (0, 0)))])
    (fun i => -1 ≤ i ∧ i ≤ 7 ∧ ∀ j : Nat, i < j → j < 8 → a j = b j) (fun i => (i + 1).toNat) 7 ⟨by omega, by omega, fun j _ _ => by omega⟩ (subs ⟨rfl, rfl, rfl, trivial⟩) (subs ⟨rfl, rfl, trivial⟩) ?_
  intro i ⟨hi0, hi1, heq⟩
  refine cw_seq ?_
  refine cw_sr ?_
  refine steps_q rfl (q_move rfl) ?_  -- wide.go:62
  refine steps_q rfl (q_bin rfl rfl rfl) ?_  -- wide.go:62
  refine steps_nil ?_
  refine cw_cond _ rfl (fun hc1 => ?_) (fun hc1 => ?_)
  · -- yes 1
    have hc : 0 ≤ i := of_decide_eq_true hc1
    have ga := ha i.toNat (by omega)
    have gb := hb i.toNat (by omega)
    refine cw_skip ?_
    refine at_then ?_
    refine cw_seq ?_
    refine cw_block ?_
    refine cw_sd mixed [0, 1, 2, 3, 4, 5, 6] 0 _ (by kernel_rfl) (SubL.refl _) ?_
    refine qi_q rfl rfl (q_move rfl) ?_  -- wide.go:63
    refine qi_q rfl rfl (q_indexArr arr71 rfl rfl (by omega) (by omega)) ?_  -- wide.go:63
    refine qi_q rfl rfl (q_load1 2 one28 rfl rfl (L8_get _ hc (by omega))) ?_  -- wide.go:63
    refine qi_q rfl rfl (q_move rfl) ?_  -- wide.go:63
    refine qi_q rfl rfl (q_indexArr arr71 rfl rfl (by omega) (by omega)) ?_  -- wide.go:63
    refine qi_q rfl rfl (q_load1 3 one28 rfl rfl (L8_get _ hc (by omega))) ?_  -- wide.go:63
    refine qi_q rfl rfl (q_bin rfl rfl rfl) ?_  -- wide.go:63
    refine qi_nil ?_
    refine tail_nil (by kernel_rfl) ?_
    refine cw_cond _ rfl (fun hc2 => ?_) (fun hc2 => ?_)
    · -- yes 2
      have hne : ¬ a i.toNat = b i.toNat := by simpa using hc2
      refine cw_seq ?_
      refine cw_sd mixed [0, 1, 2, 3, 4, 5, 6] 0 _ (by kernel_rfl) (SubL.refl _) ?_
      refine qi_q rfl rfl (q_move rfl) ?_  -- wide.go:64
      refine qi_q rfl rfl (q_indexArr arr71 rfl rfl (by omega) (by omega)) ?_  -- wide.go:64
      refine qi_q rfl rfl (q_load1 2 one28 rfl rfl (L8_get _ hc (by omega))) ?_  -- wide.go:64
      refine qi_q rfl rfl (q_move rfl) ?_  -- wide.go:64
      refine qi_q rfl rfl (q_indexArr arr71 rfl rfl (by omega) (by omega)) ?_  -- wide.go:64
      refine qi_q rfl rfl (q_load1 3 one28 rfl rfl (L8_get _ hc (by omega))) ?_  -- wide.go:64
      refine qi_q rfl rfl (q_bin rfl rfl rfl) ?_  -- wide.go:64
      refine qi_nil ?_
      refine tail_nil (by kernel_rfl) ?_
      refine cw_cond _ rfl (fun hc3 => ?_) (fun hc3 => ?_)
      · -- yes 3
        have hl : a i.toNat < b i.toNat := of_decide_eq_true hc3
        have e := val_lt ha hb (i := i.toNat) (by omega) (fun j h1 h2 => heq j (by omega) h2) hl
        have e : (Value.int .i64 (-1)) = .int .i64 (cmpI (val 8 a) (val 8 b)) := by unfold cmpI; rw [if_pos e]
        refine cw_sr ?_
        refine steps_q rfl (q_assign rfl) ?_  -- wide.go:65
        refine steps_nil ?_
        refine cw_ret ?_
        exact ret_pure rfl (rv_tmp rfl rv_nil) e
      · -- no 3
        have hl : ¬ a i.toNat < b i.toNat := of_decide_eq_false hc3
        have e := val_lt hb ha (i := i.toNat) (by omega) (fun j h1 h2 => (heq j (by omega) h2).symm) (by omega)
        have e : (Value.int .i64 1) = .int .i64 (cmpI (val 8 a) (val 8 b)) := by unfold cmpI; rw [if_neg (by omega), if_neg (by omega)]
        refine cw_skip ?_
        refine at_then ?_
        refine cw_sr ?_
        refine steps_q rfl (q_assign rfl) ?_  -- wide.go:67
        refine steps_nil ?_
        refine cw_ret ?_
        exact ret_pure rfl (rv_tmp rfl rv_nil) e
    · -- no 2
      have hne : a i.toNat = b i.toNat := by simpa using hc2
      refine cw_skip ?_
      refine at_then ?_
      refine cw_region ?_
      refine steps_q rfl (q_move rfl) ?_  -- wide.go:62
      refine steps_q rfl (q_bin rfl rfl (sub64 (by omega) (by omega))) ?_  -- wide.go:62
      refine steps_q rfl (q_assign rfl) ?_  -- wide.go:62
      refine steps_nil ?_
      refine at_round (i - 1) ⟨by omega, by omega, fun j h1 h2 => ?_⟩ (by omega) (subs ⟨rfl, rfl, rfl, trivial⟩) (subs ⟨rfl, rfl, trivial⟩)
      by_cases hj : i = j
      · rw [show j = i.toNat by omega]; exact hne
      · exact heq j (by omega) h2
  · -- no 1
    have hc : ¬ 0 ≤ i := of_decide_eq_false hc1
    have e : val 8 a = val 8 b := val_congr 8 fun j hj => heq j (by omega) hj
    have e : (Value.int .i64 0) = .int .i64 (cmpI (val 8 a) (val 8 b)) := by rw [e]; unfold cmpI; rw [if_neg (by omega), if_pos rfl]
    refine cw_exit ?_
    refine at_then ?_
    refine cw_sr ?_
    refine steps_q rfl (q_assign rfl) ?_  -- wide.go:70
    refine steps_nil ?_
    refine cw_ret ?_
    exact ret_pure rfl (rv_tmp rfl rv_nil) e

/-! ## not -/
theorem not_next (g : Nat → Int) (i : Int) (h0 : 0 ≤ i) : L8 (upd (fun j => if (j : Int) < i then 18446744073709551615 - g j else g j) i.toNat (18446744073709551615 - g i.toNat)) = L8 (fun j => if (j : Int) < i + 1 then 18446744073709551615 - g j else g j) :=
  L8_congr fun j hj => by
    simp only [upd]
    by_cases hji : j = i.toNat
    · subst hji; rw [if_pos rfl, if_pos (by omega)]
    · rw [if_neg hji]
      by_cases h2 : (j : Int) < i
      · rw [if_pos h2, if_pos (by omega)]
      · rw [if_neg h2, if_neg (by omega)]
theorem wide_not (g : Nat → Int) (h : Lm g) : PureF Tryz.prog 86 [.agg (L8 g).toArray] (.agg (L8 fun j => 18446744073709551615 - g j).toArray) := by
  refine pure_of Tryz.func86 rfl Tryz.ntmps86 rfl fun w => ?_
  refine cw_sr ?_
  refine steps_s (s_boxA 1 rfl rfl fun b1 => ?_)  -- wide.go:92
  refine steps_s (s_allocA 2 rfl zer71 fun b2 => ?_)  -- wide.go:92
  refine steps_nil ?_
  refine cw_seq ?_
  refine cw_sr ?_
  refine steps_q rfl (q_move rfl) ?_  -- wide.go:93
  refine steps_nil ?_
  refine cw_block ?_
  -- LOOP 1 writes [3, 4, 5, 6, 7, 8, 9, 10, 11, 12, 13]  stores via [12]  reads [1]
  refine cw_loop (S := Int) (fun i => [(1, .pointer (some ⟨b1, 0, none⟩)), (2, .pointer (some ⟨b2, 0, none⟩)), (4, .int .i64 i)])
    (fun i => [(1, (b1, .cells (L8 fun j => if j < i then 18446744073709551615 - g j else g j).toArray 71 (0, 0))), (2, (b2, .cells (L8 fun _ => 0).toArray 71 (0, 0)))])
    (fun i => 0 ≤ i ∧ i ≤ 8) (fun i => (8 - i).toNat) 0 (by omega) (subs ⟨rfl, rfl, rfl, trivial⟩) (subs ⟨rfl, rfl, trivial⟩) ?_
  intro i hi
  refine cw_sr ?_
  refine steps_q rfl (q_bin rfl rfl rfl) ?_  -- wide.go:93
  refine steps_nil ?_
  refine cw_seq ?_
  refine cw_cond _ rfl (fun hc1 => ?_) (fun hc1 => ?_)
  · -- yes 1
    have hc : i < 8 := of_decide_eq_true hc1
    have gi : 0 ≤ g i.toNat ∧ g i.toNat < 18446744073709551616 := h i.toNat (by omega)
    have e1 : (if ((i.toNat : Nat) : Int) < i then 18446744073709551615 - g i.toNat else g i.toNat) = g i.toNat := if_neg (by omega)
    refine cw_skip ?_
    refine at_then ?_
    refine cw_seq ?_
    refine cw_block ?_
    refine cw_sr ?_
    refine steps_q rfl (q_move rfl) ?_  -- wide.go:93
    refine steps_q rfl (q_assign rfl) ?_  -- wide.go:93
    refine steps_nil ?_
    refine cw_region ?_
    refine steps_q rfl (q_move rfl) ?_  -- wide.go:94
    refine steps_q rfl (q_move rfl) ?_  -- wide.go:94
    refine steps_q rfl (q_indexArr arr71 rfl rfl (by omega) (by omega)) ?_  -- wide.go:94
    refine steps_q rfl (q_load1 1 one28 rfl rfl (L8_get _ hi.1 hc)) ?_  -- wide.go:94
    refine steps_q rfl (q_com rfl (by rw [e1]; exact com64 gi.1 gi.2)) ?_  -- wide.go:94
    refine steps_q rfl (q_indexArr arr71 rfl rfl (by omega) (by omega)) ?_  -- wide.go:94
    refine steps_s (s_store1 1 siz28 rfl rfl rfl rfl rfl (L8_fit _ hi.1 hc) ((L8_wr _ hi.1 hc _).trans (not_next g i hi.1)) ?_)  -- wide.go:94
    refine steps_nil ?_
    refine at_then ?_
    refine cw_region ?_
    refine steps_q rfl (q_bin rfl rfl (add64 (by omega) (by omega))) ?_  -- wide.go:93
    refine steps_q rfl (q_move rfl) ?_  -- wide.go:93
    refine steps_nil ?_
    exact at_round (i + 1) (by omega) (by omega) (subs ⟨rfl, rfl, rfl, trivial⟩) (subs ⟨rfl, rfl, trivial⟩)
  · -- no 1
    have hc : ¬ i < 8 := of_decide_eq_false hc1
    obtain rfl : i = 8 := by omega
    refine cw_exit ?_
    refine at_then ?_
    refine cw_sr ?_
    refine steps_q rfl (q_loadW 1 agg71 rfl rfl rfl) ?_  -- wide.go:96
    refine steps_s (s_storeW 2 siz71 rfl rfl rfl rfl rfl rfl ?_)  -- wide.go:96
    refine steps_nil ?_
    refine cw_ret ?_
    exact ret_pure rfl (rv_agg 2 agg71 rfl rfl rfl rv_nil) (congrArg (fun l : List Value => Value.agg l.toArray) (L8_congr (g := fun j => if (j : Int) < 8 then 18446744073709551615 - g j else g j) fun j hj => if_pos (by omega)))
end Go.Proofs.YtomdahjakkifbaaGreat

/-
  The walks of package wide: plus, minus, size, Add, Sub, Neg, Sign, Cmp.
-/
namespace Go.Proofs.YtomdahjakkifbaaGreat
open Go Go.NP Go.RowKit Go.Proofs
set_option maxRecDepth 100000

theorem add64_ext {x y c : Int} (hx : 0 ≤ x) (hy : 0 ≤ y) (h0 : 0 ≤ c) (h1 : c ≤ 1) (w : World) :
    (callFunc 125 [.int .u64 x, .int .u64 y, .int .u64 c].toArray).run Tryz.prog w = .ok (.value (.tuple #[.int .u64 ((x + y + c) % B), .int .u64 ((x + y + c) / B)])) w := by
  rw [run_callFunc_extern Tryz.func125 (by kernel_rfl) (by kernel_rfl) (by kernel_rfl) (e := addEntry64) (by kernel_rfl)]
  have := run_addEntry64 (P := Tryz.prog) hx hy h0 h1 w
  rw [show ([.int .u64 x, .int .u64 y, .int .u64 c].toArray : Array Value) = #[.int .u64 x, .int .u64 y, .int .u64 c] from rfl, this]
  rfl

/-- The adder's closure: the sum's limb; what is carried stands in its variable. -/
theorem adder1 {x y c s k : Int} (hs : (x + y + c) % B = s) (hk : (x + y + c) / B = k) (hx : 0 ≤ x) (hy : 0 ≤ y) (h0 : 0 ≤ c) (h1 : c ≤ 1) (b : Nat) (w : World) (hb : w.heap[b]? = some (.cells [.int .u64 c].toArray 28 (0, 0))) :
    Calls Tryz.prog 154 [.int .u64 x, .int .u64 y, .pointer (some ⟨b, 0, none⟩)].toArray w fun e w' =>
      e = .returned (.int .u64 s) ∧ St w [b] w' [(2, (b, .cells [.int .u64 k].toArray 28 (0, 0)))] := by
  subst hs hk
  refine calls_of Tryz.func154 rfl Tryz.ntmps154 rfl (St.start1 w (i := 2) hb) ?_
  refine cw_sr ?_
  refine steps_q rfl (q_assign rfl) ?_  -- wide.go:75
  refine steps_nil ?_
  refine cw_sr ?_
  refine steps_q rfl (q_move rfl) ?_  -- wide.go:76
  refine steps_q rfl (q_move rfl) ?_  -- wide.go:76
  refine steps_q rfl (q_load1 2 one28 rfl rfl rfl) ?_  -- wide.go:76
  refine steps_q rfl (q_ext rfl rfl (add64_ext hx hy h0 h1)) ?_  -- wide.go:76
  refine steps_q rfl (q_move rfl) ?_  -- wide.go:76
  refine steps_q rfl (q_extract rfl rfl) ?_  -- wide.go:76
  refine steps_q rfl (q_extract rfl rfl) ?_  -- wide.go:76
  refine steps_q rfl (q_assign rfl) ?_  -- wide.go:76
  refine steps_q rfl (q_assign rfl) ?_  -- wide.go:76
  refine steps_nil ?_
  refine cw_sr ?_
  refine steps_q rfl (q_move rfl) ?_  -- wide.go:77
  refine steps_s (s_store1 2 siz28 rfl rfl rfl rfl rfl (by simp) rfl ?_)  -- wide.go:77
  refine steps_nil ?_
  refine cw_sr ?_
  refine steps_q rfl (q_move rfl) ?_  -- wide.go:78
  refine steps_q rfl (q_assign rfl) ?_  -- wide.go:78
  refine steps_nil ?_
  refine cw_ret ?_
  exact at_ret rfl (rv_tmp rfl rv_nil) fun w' hw => ⟨rfl, hw.weaken (subs ⟨rfl, trivial⟩)⟩

def AdderR (c : Int) (v : Value) (b : Nat) (o : Obj) : Prop := v = .func (.func 154) #[] [.pointer (some ⟨b, 0, none⟩)].toArray ∧ o = .cells [.int .u64 c].toArray 28 (0, 0)
theorem adder_calls (c : Int) (w : World) : Calls Tryz.prog 120 [.int .u64 c].toArray w fun e w' => ∃ v b o, e = .returned v ∧ AdderR c v b o ∧ Below w.heap.size w w' ∧ w'.heap[b]? = some o ∧ w.heap.size ≤ b := by
  refine calls_of Tryz.func120 rfl Tryz.ntmps120 rfl (St.start w) ?_
  refine cw_sr ?_
  refine steps_s (s_box1 1 rfl rfl rfl fun b1 => ?_)  -- wide.go:74
  refine steps_q rfl (q_assign rfl) ?_  -- wide.go:74
  refine steps_nil ?_
  refine cw_sr ?_
  refine steps_q rfl (q_func rfl rfl) ?_  -- wide.go:75
  refine steps_q rfl (q_assign rfl) ?_  -- wide.go:75
  refine steps_nil ?_
  refine cw_ret ?_
  exact at_ret rfl (rv_tmp rfl rv_nil) fun w' hw => ⟨_, b1, _, rfl, ⟨rfl, rfl⟩, hw.below, (hw.known 1 _ _ rfl).1, ((hw.known 1 _ _ rfl).2).resolve_right (by simp)⟩

/-! ## plus -/
theorem car_next (a b : Nat → Int) (c : Int) {i : Int} (h0 : 0 ≤ i) (_h1 : i < 8) : (sumG a b c i i.toNat + b i.toNat + car a b c i.toNat) / B = car a b c (i + 1).toNat := by
  have e : sumG a b c i i.toNat = a i.toNat := by simp only [sumG]; rw [if_neg (by omega)]
  rw [e, show (i + 1).toNat = i.toNat + 1 by omega, car_succ]
theorem wide_plus (a b : Nat → Int) (c : Int) (ha : Lm a) (hb : Lm b) (h0 : 0 ≤ c) (h1 : c ≤ 1) :
    PureF Tryz.prog 85 [.agg (L8 a).toArray, .agg (L8 b).toArray, .int .u64 c] (.agg (Wl (val 8 a + val 8 b + c)).toArray) := by
  refine pure_of Tryz.func85 rfl Tryz.ntmps85 rfl fun w => ?_
  refine cw_sr ?_
  refine steps_s (s_boxA 3 rfl rfl fun b3 => ?_)  -- wide.go:83
  refine steps_s (s_boxA 4 rfl rfl fun b4 => ?_)  -- wide.go:83
  refine steps_s (s_allocA 6 rfl zer71 fun b6 => ?_)  -- wide.go:83
  refine steps_nil ?_
  refine cw_sr ?_
  refine steps_q rfl (q_move rfl) ?_  -- wide.go:84
  refine steps_s (s_callNew 100 ent120 rfl rfl rfl (fun w _ => adder_calls c w) ?_)  -- wide.go:84
  rintro v b9 o ⟨rfl, rfl⟩
  refine steps_q rfl (q_assign rfl) ?_  -- wide.go:84
  refine steps_nil ?_
  refine cw_seq ?_
  refine cw_sr ?_
  refine steps_q rfl (q_move rfl) ?_  -- wide.go:85
  refine steps_nil ?_
  refine cw_block ?_
  -- LOOP 1 writes [8, 11, 12, 13, 14, 15, 16, 17, 18, 19, 20, 21, 22, 23, 24]  stores via [23]  reads [3, 4, 7]
  rw [sum_start a b c]
  refine cw_loop (S := Int) (fun i => [(3, .pointer (some ⟨b3, 0, none⟩)), (4, .pointer (some ⟨b4, 0, none⟩)), (6, .pointer (some ⟨b6, 0, none⟩)), (7, .func (.func 154) #[] [.pointer (some ⟨b9, 0, none⟩)].toArray), (11, .int .i64 i)])
    (fun i => [(3, (b3, .cells (L8 (sumG a b c i)).toArray 71 (0, 0))), (4, (b4, .cells (L8 b).toArray 71 (0, 0))), (6, (b6, .cells (L8 fun _ => 0).toArray 71 (0, 0))), (100, (b9, .cells [.int .u64 (car a b c i.toNat)].toArray 28 (0, 0)))])
    (fun i => 0 ≤ i ∧ i ≤ 8) (fun i => (8 - i).toNat) 0 (by omega) (subs ⟨rfl, rfl, rfl, rfl, rfl, trivial⟩) (subs ⟨rfl, rfl, rfl, by rw [show (0 : Int).toNat = 0 from rfl, car_zero]; rfl, trivial⟩) ?_
  intro i hi
  refine cw_sr ?_
  refine steps_q rfl (q_bin rfl rfl rfl) ?_  -- wide.go:85
  refine steps_nil ?_
  refine cw_seq ?_
  refine cw_cond _ rfl (fun hc1 => ?_) (fun hc1 => ?_)
  · -- yes 1
    have hc : i < 8 := of_decide_eq_true hc1
    have cr := car_le ha hb h0 h1 i.toNat (by omega)
    have gb := hb i.toNat (by omega)
    have ga : 0 ≤ sumG a b c i i.toNat := by simp only [sumG]; rw [if_neg (by omega)]; exact (ha i.toNat (by omega)).1
    refine cw_skip ?_
    refine at_then ?_
    refine cw_seq ?_
    refine cw_block ?_
    refine cw_sr ?_
    refine steps_q rfl (q_move rfl) ?_  -- wide.go:85
    refine steps_q rfl (q_assign rfl) ?_  -- wide.go:85
    refine steps_nil ?_
    refine cw_draw mixed [0, 1, 2, 3, 5, 6, 7] 4 (without _ [3, 100]) (by kernel_rfl) (sub_without _ _) ?_
    refine qi_q rfl rfl (q_move rfl) ?_  -- wide.go:86
    refine qi_q rfl rfl (q_move rfl) ?_  -- wide.go:86
    refine qi_q rfl rfl (q_move rfl) ?_  -- wide.go:86
    refine qi_q rfl rfl (q_indexArr arr71 rfl rfl (by omega) (by omega)) ?_  -- wide.go:86
    refine qi_q rfl rfl (q_move rfl) ?_  -- wide.go:86
    refine qi_q rfl rfl (q_indexArr arr71 rfl rfl (by omega) (by omega)) ?_  -- wide.go:86
    refine qi_q rfl rfl (q_load1 4 one28 rfl rfl (L8_get _ hi.1 hc)) ?_  -- wide.go:86
    refine qi_nil ?_
    refine tail_one 4 (by kernel_rfl) rfl rfl ((q_load1 3 one28 rfl rfl (L8_get _ hi.1 hc)).step rfl (by decide) ⟨(sub_without _ _), ?_⟩)  -- wide.go:86
    refine tail_one 8 (by kernel_rfl) rfl rfl (s_callUpd 100 ent154 rfl rfl rfl rfl (fun w hb => adder1 rfl (car_next a b c hi.1 hc) ga gb.1 cr.1 cr.2 b9 w hb) ⟨(subl_cons rfl (sub_without _ _)), ?_⟩)  -- wide.go:86
    refine tail_one 9 (by kernel_rfl) rfl rfl ((q_indexArr arr71 rfl rfl (by omega) (by omega)).step rfl (by decide) ⟨(subl_cons rfl (sub_without _ _)), ?_⟩)  -- wide.go:86
    refine tail_one 10 (by kernel_rfl) rfl rfl (s_store1 3 siz28 rfl rfl rfl rfl rfl (L8_fit _ hi.1 hc) ((L8_wr _ hi.1 hc _).trans (sum_next a b c hi.1 hc)) ⟨(subl_cons rfl (subl_cons rfl (sub_without _ _))), ?_⟩)  -- wide.go:86
    refine tail_nil (by kernel_rfl) ?_
    refine at_then ?_
    refine cw_region ?_
    refine steps_q rfl (q_bin rfl rfl (add64 (by omega) (by omega))) ?_  -- wide.go:85
    refine steps_q rfl (q_move rfl) ?_  -- wide.go:85
    refine steps_nil ?_
    exact at_round (i + 1) (by omega) (by omega) (subs ⟨rfl, rfl, rfl, rfl, rfl, trivial⟩) (subs ⟨rfl, rfl, rfl, rfl, trivial⟩)
  · -- no 1
    have hc : ¬ i < 8 := of_decide_eq_false hc1
    obtain rfl : i = 8 := by omega
    refine cw_exit ?_
    refine at_then ?_
    refine cw_sr ?_
    refine steps_q rfl (q_loadW 3 agg71 rfl rfl rfl) ?_  -- wide.go:88
    refine steps_s (s_storeW 6 siz71 rfl rfl rfl rfl rfl rfl ?_)  -- wide.go:88
    refine steps_nil ?_
    refine cw_ret ?_
    exact ret_pure rfl (rv_agg 6 agg71 rfl rfl rfl rv_nil) rfl

/-! ## minus, size -/
theorem B8 : B ^ 8 = M512 := rfl
theorem wide_minus (g : Nat → Int) (h : Lm g) : PureF Tryz.prog 155 [.agg (L8 g).toArray] (.agg (Wl (-val 8 g)).toArray) := by
  have e : Wl (val 8 (fun j => 18446744073709551615 - g j) + val 8 (fun _ => 0) + 1) = Wl (-val 8 g) := Wl_emod (by
    rw [val_com, B8, show val 8 (fun _ => (0 : Int)) = 0 from rfl]
    have : M512 - 1 - val 8 g + 0 + 1 = -val 8 g + M512 := by omega
    rw [this, Int.add_emod_right])
  have hz : Lm (fun _ => 0) := fun j _ => ⟨Int.le_refl 0, B_pos⟩
  refine pure_of Tryz.func155 rfl Tryz.ntmps155 rfl fun w => ?_
  refine cw_sr ?_
  refine steps_s (s_boxA 1 rfl rfl fun b1 => ?_)  -- wide.go:100
  refine steps_s (s_allocA 2 rfl zer71 fun b2 => ?_)  -- wide.go:100
  refine steps_nil ?_
  refine cw_sr ?_
  refine steps_q rfl (q_loadW 1 agg71 rfl rfl rfl) ?_  -- wide.go:100
  refine steps_q rfl (q_pure ent86 rfl (wide_not g h)) ?_  -- wide.go:100
  refine steps_q rfl (q_build (vs := []) rfl rfl bldL0) ?_  -- wide.go:100
  refine steps_q rfl (q_pure ent85 rfl (wide_plus _ _ 1 (lm_com h) hz (by omega) (by omega))) ?_  -- wide.go:100
  refine steps_s (s_storeW 2 siz71 rfl rfl rfl rfl rfl rfl ?_)  -- wide.go:100
  refine steps_nil ?_
  refine cw_ret ?_
  rw [e]
  exact ret_pure rfl (rv_agg 2 agg71 rfl rfl rfl rv_nil) rfl

theorem wide_size (n : Int) (h : Fits n) : PureF Tryz.prog 123 [.agg (Wl n).toArray] (.agg (Wl (if n < 0 then -n else n)).toArray) := by
  have h7 := lim_lm n 7
  refine pure_of Tryz.func123 rfl Tryz.ntmps123 rfl fun w => ?_
  refine cw_sr ?_
  refine steps_s (s_boxA 1 rfl rfl fun b1 => ?_)  -- wide.go:124
  refine steps_s (s_allocA 2 rfl zer71 fun b2 => ?_)  -- wide.go:124
  refine steps_nil ?_
  refine cw_seq ?_
  refine cw_sr ?_
  refine steps_q rfl (q_loadW 1 agg71 rfl rfl rfl) ?_  -- wide.go:125
  refine steps_q rfl (q_pure ent87 rfl (wide_negative (lim n) h7)) ?_  -- wide.go:125
  refine steps_nil ?_
  refine cw_cond _ rfl (fun hc1 => ?_) (fun hc1 => ?_)
  · -- yes 1
    have hc : n < 0 := (lim7 h).1 (of_decide_eq_true hc1)
    have e : Wl (-val 8 (lim n)) = Wl (if n < 0 then -n else n) := by rw [if_pos hc]; exact Wl_emod (by rw [val_Wl, M512_eq]; omega)
    refine cw_sr ?_
    refine steps_q rfl (q_loadW 1 agg71 rfl rfl rfl) ?_  -- wide.go:126
    refine steps_q rfl (q_pure ent155 rfl (wide_minus (lim n) (fun j _ => lim_lm n j))) ?_  -- wide.go:126
    refine steps_s (s_storeW 2 siz71 rfl rfl rfl rfl rfl rfl ?_)  -- wide.go:126
    refine steps_nil ?_
    refine cw_ret ?_
    rw [e]
    exact ret_pure rfl (rv_agg 2 agg71 rfl rfl rfl rv_nil) rfl
  · -- no 1
    have hc : ¬ n < 0 := fun h' => of_decide_eq_false hc1 ((lim7 h).2 h')
    have e : Wl n = Wl (if n < 0 then -n else n) := by rw [if_neg hc]
    refine cw_skip ?_
    refine at_then ?_
    refine cw_sr ?_
    refine steps_q rfl (q_loadW 1 agg71 rfl rfl rfl) ?_  -- wide.go:128
    refine steps_s (s_storeW 2 siz71 rfl rfl rfl rfl rfl rfl ?_)  -- wide.go:128
    refine steps_nil ?_
    refine cw_ret ?_
    rw [e]
    exact ret_pure rfl (rv_agg 2 agg71 rfl rfl rfl rv_nil) rfl

/-! ## Add, Sub, Neg -/
def W (n : Int) : Value := .agg (Wl n).toArray
theorem wide_neg (n : Int) (h : Fits n) : PureF Tryz.prog 87 [.agg (Wl n).toArray] (.bool (decide (n < 0))) := by
  have := wide_negative (lim n) (lim_lm n 7)
  rwa [show decide (9223372036854775808 ≤ lim n 7) = decide (n < 0) from decide_eq_decide.2 (lim7 h)] at this
theorem beq_split (p q : Prop) [Decidable p] [Decidable q] : ((decide p == decide q) = true ∧ (p ↔ q)) ∨ ((decide p == decide q) = false ∧ ¬ (p ↔ q)) := by
  by_cases hp : p <;> by_cases hq : q <;> simp [hp, hq]

section
variable {a b : Int} (ha : Fits a) (hb : Fits b)
theorem wide_plus_Wl (c : Int) (h0 : 0 ≤ c) (h1 : c ≤ 1) : PureF Tryz.prog 85 [.agg (Wl a).toArray, .agg (Wl b).toArray, .int .u64 c] (.agg (Wl (a + b + c)).toArray) := by
  have := wide_plus (lim a) (lim b) c (fun j _ => lim_lm a j) (fun j _ => lim_lm b j) h0 h1
  rwa [show Wl (val 8 (lim a) + val 8 (lim b) + c) = Wl (a + b + c) from Wl_emod (by rw [val_Wl, val_Wl, M512_eq]; omega)] at this
include ha hb
theorem wide_Add_same (hs : Fits (a + b)) (h : (decide (a < 0) == decide (b < 0)) = true) : PureF Tryz.prog 91 [.agg (Wl a).toArray, .agg (Wl b).toArray] (.tuple #[.agg (Wl (a + b)).toArray, .bool true]) := by
  have hn : (decide (a + b < 0) != decide (a < 0)) = false := by
    have : decide (a < 0) = decide (b < 0) := by simpa using h
    by_cases h1 : a < 0 <;> by_cases h2 : b < 0 <;> simp_all <;> omega
  have hp := wide_plus_Wl (a := a) (b := b) 0 (by omega) (by omega)
  rw [Int.add_zero] at hp
  refine pure_of Tryz.func91 rfl Tryz.ntmps91 rfl fun w => ?_
  refine cw_sr ?_
  refine steps_s (s_boxA 2 rfl rfl fun b2 => ?_)  -- wide.go:106
  refine steps_s (s_boxA 3 rfl rfl fun b3 => ?_)  -- wide.go:106
  refine steps_s (s_allocA 4 rfl zer31 fun b4 => ?_)  -- wide.go:106
  refine steps_q rfl (q_assign rfl) ?_  -- wide.go:106
  refine steps_nil ?_
  refine cw_sr ?_
  refine steps_q rfl (q_field fld31_0 rfl) ?_  -- wide.go:107
  refine steps_q rfl (q_loadW 2 agg29 rfl rfl rfl) ?_  -- wide.go:107
  refine steps_q rfl (q_field fld31_0 rfl) ?_  -- wide.go:107
  refine steps_q rfl (q_loadW 3 agg29 rfl rfl rfl) ?_  -- wide.go:107
  refine steps_q rfl (q_pure ent85 rfl hp) ?_  -- wide.go:107
  refine steps_s (s_allocA 6 rfl zer71 fun b6 => ?_)  -- wide.go:107
  refine steps_s (s_storeW 6 siz71 rfl rfl rfl rfl rfl rfl ?_)  -- wide.go:107
  refine steps_nil ?_
  refine cw_seq ?_
  refine cw_sd mixed [0, 1, 2, 3, 4, 5, 6, 7, 8, 9, 10, 11, 12, 13, 14] 0 _ (by kernel_rfl) (SubL.refl _) ?_
  refine qi_q rfl rfl (q_field fld31_0 rfl) ?_  -- wide.go:108
  refine qi_q rfl rfl (q_loadW 2 agg29 rfl rfl rfl) ?_  -- wide.go:108
  refine qi_q rfl rfl (q_pure ent87 rfl (wide_neg a ha)) ?_  -- wide.go:108
  refine qi_q rfl rfl (q_field fld31_0 rfl) ?_  -- wide.go:108
  refine qi_q rfl rfl (q_loadW 3 agg29 rfl rfl rfl) ?_  -- wide.go:108
  refine qi_q rfl rfl (q_pure ent87 rfl (wide_neg b hb)) ?_  -- wide.go:108
  refine qi_q rfl rfl (q_beql bool4 rfl rfl h) ?_  -- wide.go:108
  refine qi_q rfl rfl (q_move rfl) ?_  -- wide.go:108
  refine qi_gq rfl rfl rfl rfl (q_loadW 6 agg71 rfl rfl rfl) ?_  -- wide.go:108
  refine qi_gq rfl rfl rfl rfl (q_pure ent87 rfl (wide_neg (a + b) hs)) ?_  -- wide.go:108
  refine qi_gq rfl rfl rfl rfl (q_field fld31_0 rfl) ?_  -- wide.go:108
  refine qi_gq rfl rfl rfl rfl (q_loadW 2 agg29 rfl rfl rfl) ?_  -- wide.go:108
  refine qi_gq rfl rfl rfl rfl (q_pure ent87 rfl (wide_neg a ha)) ?_  -- wide.go:108
  refine qi_gq rfl rfl rfl rfl (q_bneq bool4 rfl rfl hn) ?_  -- wide.go:108
  refine qi_q rfl rfl (q_pick rfl rfl rfl rfl) ?_  -- wide.go:108
  refine qi_nil ?_
  refine tail_nil (by kernel_rfl) ?_
  refine cw_cond _ rfl (fun hc1 => ?_) (fun hc1 => ?_)
  · cases hc1
  · -- no 1
    refine cw_skip ?_
    refine at_then ?_
    refine cw_sr ?_
    refine steps_q rfl (q_loadW 6 agg71 rfl rfl rfl) ?_  -- wide.go:111
    refine steps_q rfl (q_build (vs := [(0, _)]) rfl rfl (bldW _)) ?_  -- wide.go:111
    refine steps_s (s_storeW 4 siz31 rfl rfl rfl rfl rfl rfl ?_)  -- wide.go:111
    refine steps_q rfl (q_assign rfl) ?_  -- wide.go:111
    refine steps_nil ?_
    refine cw_ret ?_
    exact ret_pure rfl (rv_agg 4 agg31 rfl rfl rfl (rv_tmp rfl rv_nil)) rfl
theorem wide_Add_unlike (h : (decide (a < 0) == decide (b < 0)) = false) : PureF Tryz.prog 91 [.agg (Wl a).toArray, .agg (Wl b).toArray] (.tuple #[.agg (Wl (a + b)).toArray, .bool true]) := by
  have hp := wide_plus_Wl (a := a) (b := b) 0 (by omega) (by omega)
  rw [Int.add_zero] at hp
  refine pure_of Tryz.func91 rfl Tryz.ntmps91 rfl fun w => ?_
  refine cw_sr ?_
  refine steps_s (s_boxA 2 rfl rfl fun b2 => ?_)  -- wide.go:106
  refine steps_s (s_boxA 3 rfl rfl fun b3 => ?_)  -- wide.go:106
  refine steps_s (s_allocA 4 rfl zer31 fun b4 => ?_)  -- wide.go:106
  refine steps_q rfl (q_assign rfl) ?_  -- wide.go:106
  refine steps_nil ?_
  refine cw_sr ?_
  refine steps_q rfl (q_field fld31_0 rfl) ?_  -- wide.go:107
  refine steps_q rfl (q_loadW 2 agg29 rfl rfl rfl) ?_  -- wide.go:107
  refine steps_q rfl (q_field fld31_0 rfl) ?_  -- wide.go:107
  refine steps_q rfl (q_loadW 3 agg29 rfl rfl rfl) ?_  -- wide.go:107
  refine steps_q rfl (q_pure ent85 rfl hp) ?_  -- wide.go:107
  refine steps_s (s_allocA 6 rfl zer71 fun b6 => ?_)  -- wide.go:107
  refine steps_s (s_storeW 6 siz71 rfl rfl rfl rfl rfl rfl ?_)  -- wide.go:107
  refine steps_nil ?_
  refine cw_seq ?_
  refine cw_sd mixed [0, 1, 2, 3, 4, 5, 6, 7, 8, 9, 10, 11, 12, 13, 14] 0 _ (by kernel_rfl) (SubL.refl _) ?_
  refine qi_q rfl rfl (q_field fld31_0 rfl) ?_  -- wide.go:108
  refine qi_q rfl rfl (q_loadW 2 agg29 rfl rfl rfl) ?_  -- wide.go:108
  refine qi_q rfl rfl (q_pure ent87 rfl (wide_neg a ha)) ?_  -- wide.go:108
  refine qi_q rfl rfl (q_field fld31_0 rfl) ?_  -- wide.go:108
  refine qi_q rfl rfl (q_loadW 3 agg29 rfl rfl rfl) ?_  -- wide.go:108
  refine qi_q rfl rfl (q_pure ent87 rfl (wide_neg b hb)) ?_  -- wide.go:108
  refine qi_q rfl rfl (q_beql bool4 rfl rfl h) ?_  -- wide.go:108
  refine qi_q rfl rfl (q_move rfl) ?_  -- wide.go:108
  refine qi_gn rfl rfl rfl rfl rfl ?_  -- wide.go:108
  refine qi_gn rfl rfl rfl rfl rfl ?_  -- wide.go:108
  refine qi_gn rfl rfl rfl rfl rfl ?_  -- wide.go:108
  refine qi_gn rfl rfl rfl rfl rfl ?_  -- wide.go:108
  refine qi_gn rfl rfl rfl rfl rfl ?_  -- wide.go:108
  refine qi_gn rfl rfl rfl rfl rfl ?_  -- wide.go:108
  refine qi_q rfl rfl (q_pick_f rfl rfl) ?_  -- wide.go:108
  refine qi_nil ?_
  refine tail_nil (by kernel_rfl) ?_
  refine cw_cond _ rfl (fun hc1 => ?_) (fun hc1 => ?_)
  · cases hc1
  · -- no 1
    refine cw_skip ?_
    refine at_then ?_
    refine cw_sr ?_
    refine steps_q rfl (q_loadW 6 agg71 rfl rfl rfl) ?_  -- wide.go:111
    refine steps_q rfl (q_build (vs := [(0, _)]) rfl rfl (bldW _)) ?_  -- wide.go:111
    refine steps_s (s_storeW 4 siz31 rfl rfl rfl rfl rfl rfl ?_)  -- wide.go:111
    refine steps_q rfl (q_assign rfl) ?_  -- wide.go:111
    refine steps_nil ?_
    refine cw_ret ?_
    exact ret_pure rfl (rv_agg 4 agg31 rfl rfl rfl (rv_tmp rfl rv_nil)) rfl
theorem wide_Add (hs : Fits (a + b)) : PureF Tryz.prog 91 [.agg (Wl a).toArray, .agg (Wl b).toArray] (.tuple #[.agg (Wl (a + b)).toArray, .bool true]) := by
  cases h : (decide (a < 0) == decide (b < 0))
  · exact wide_Add_unlike ha hb h
  · exact wide_Add_same ha hb hs h

omit ha hb in
theorem wide_sub_Wl : PureF Tryz.prog 85 [.agg (Wl a).toArray, .agg (L8 fun j => 18446744073709551615 - lim b j).toArray, .int .u64 1] (.agg (Wl (a - b)).toArray) := by
  have := wide_plus (lim a) (fun j => 18446744073709551615 - lim b j) 1 (fun j _ => lim_lm a j) (lm_com fun j _ => lim_lm b j) (by omega) (by omega)
  rwa [show Wl (val 8 (lim a) + val 8 (fun j => 18446744073709551615 - lim b j) + 1) = Wl (a - b) from Wl_emod (by rw [val_com, B8, val_Wl, val_Wl, M512_eq]; omega)] at this

theorem wide_Sub_unlike (hs : Fits (a - b)) (h : (decide (a < 0) != decide (b < 0)) = true) : PureF Tryz.prog 49 [.agg (Wl a).toArray, .agg (Wl b).toArray] (.tuple #[.agg (Wl (a - b)).toArray, .bool true]) := by
  have hn : (decide (a - b < 0) != decide (a < 0)) = false := by
    by_cases h1 : a < 0 <;> by_cases h2 : b < 0 <;> simp_all <;> omega
  refine pure_of Tryz.func49 rfl Tryz.ntmps49 rfl fun w => ?_
  refine cw_sr ?_
  refine steps_s (s_boxA 2 rfl rfl fun b2 => ?_)  -- wide.go:115
  refine steps_s (s_boxA 3 rfl rfl fun b3 => ?_)  -- wide.go:115
  refine steps_s (s_allocA 4 rfl zer31 fun b4 => ?_)  -- wide.go:115
  refine steps_q rfl (q_assign rfl) ?_  -- wide.go:115
  refine steps_nil ?_
  refine cw_sd mixed [0, 1, 2, 3, 4, 5] 2 (without _ [6]) (by kernel_rfl) (sub_without _ _) ?_
  refine qi_q rfl rfl (q_field fld31_0 rfl) ?_  -- wide.go:116
  refine qi_q rfl rfl (q_loadW 2 agg29 rfl rfl rfl) ?_  -- wide.go:116
  refine qi_q rfl rfl (q_field fld31_0 rfl) ?_  -- wide.go:116
  refine qi_q rfl rfl (q_loadW 3 agg29 rfl rfl rfl) ?_  -- wide.go:116
  refine qi_q rfl rfl (q_pure ent86 rfl (wide_not (lim b) fun j _ => lim_lm b j)) ?_  -- wide.go:116
  refine qi_q rfl rfl (q_pure ent85 rfl wide_sub_Wl) ?_  -- wide.go:116
  refine qi_nil ?_
  refine tail_one 6 (by kernel_rfl) rfl rfl (s_allocA 6 rfl zer71 fun b6 => ⟨(subl_cons rfl (sub_without _ _)), ?_⟩)  -- wide.go:116
  refine tail_one 7 (by kernel_rfl) rfl rfl (s_storeW 6 siz71 rfl rfl rfl rfl rfl rfl ⟨(subl_cons rfl (subl_cons rfl (sub_without _ _))), ?_⟩)  -- wide.go:116
  refine tail_nil (by kernel_rfl) ?_
  refine cw_seq ?_
  refine cw_sd mixed [0, 1, 2, 3, 4, 5, 6, 7, 8, 9, 10, 11, 12, 13, 14] 0 _ (by kernel_rfl) (SubL.refl _) ?_
  refine qi_q rfl rfl (q_field fld31_0 rfl) ?_  -- wide.go:117
  refine qi_q rfl rfl (q_loadW 2 agg29 rfl rfl rfl) ?_  -- wide.go:117
  refine qi_q rfl rfl (q_pure ent87 rfl (wide_neg a ha)) ?_  -- wide.go:117
  refine qi_q rfl rfl (q_field fld31_0 rfl) ?_  -- wide.go:117
  refine qi_q rfl rfl (q_loadW 3 agg29 rfl rfl rfl) ?_  -- wide.go:117
  refine qi_q rfl rfl (q_pure ent87 rfl (wide_neg b hb)) ?_  -- wide.go:117
  refine qi_q rfl rfl (q_bneq bool4 rfl rfl h) ?_  -- wide.go:117
  refine qi_q rfl rfl (q_move rfl) ?_  -- wide.go:117
  refine qi_gq rfl rfl rfl rfl (q_loadW 6 agg71 rfl rfl rfl) ?_  -- wide.go:117
  refine qi_gq rfl rfl rfl rfl (q_pure ent87 rfl (wide_neg (a - b) hs)) ?_  -- wide.go:117
  refine qi_gq rfl rfl rfl rfl (q_field fld31_0 rfl) ?_  -- wide.go:117
  refine qi_gq rfl rfl rfl rfl (q_loadW 2 agg29 rfl rfl rfl) ?_  -- wide.go:117
  refine qi_gq rfl rfl rfl rfl (q_pure ent87 rfl (wide_neg a ha)) ?_  -- wide.go:117
  refine qi_gq rfl rfl rfl rfl (q_bneq bool4 rfl rfl hn) ?_  -- wide.go:117
  refine qi_q rfl rfl (q_pick rfl rfl rfl rfl) ?_  -- wide.go:117
  refine qi_nil ?_
  refine tail_nil (by kernel_rfl) ?_
  refine cw_cond _ rfl (fun hc1 => ?_) (fun hc1 => ?_)
  · cases hc1
  · -- no 1
    refine cw_skip ?_
    refine at_then ?_
    refine cw_sr ?_
    refine steps_q rfl (q_loadW 6 agg71 rfl rfl rfl) ?_  -- wide.go:120
    refine steps_q rfl (q_build (vs := [(0, _)]) rfl rfl (bldW _)) ?_  -- wide.go:120
    refine steps_s (s_storeW 4 siz31 rfl rfl rfl rfl rfl rfl ?_)  -- wide.go:120
    refine steps_q rfl (q_assign rfl) ?_  -- wide.go:120
    refine steps_nil ?_
    refine cw_ret ?_
    exact ret_pure rfl (rv_agg 4 agg31 rfl rfl rfl (rv_tmp rfl rv_nil)) rfl
theorem wide_Sub_same (h : (decide (a < 0) != decide (b < 0)) = false) : PureF Tryz.prog 49 [.agg (Wl a).toArray, .agg (Wl b).toArray] (.tuple #[.agg (Wl (a - b)).toArray, .bool true]) := by
  refine pure_of Tryz.func49 rfl Tryz.ntmps49 rfl fun w => ?_
  refine cw_sr ?_
  refine steps_s (s_boxA 2 rfl rfl fun b2 => ?_)  -- wide.go:115
  refine steps_s (s_boxA 3 rfl rfl fun b3 => ?_)  -- wide.go:115
  refine steps_s (s_allocA 4 rfl zer31 fun b4 => ?_)  -- wide.go:115
  refine steps_q rfl (q_assign rfl) ?_  -- wide.go:115
  refine steps_nil ?_
  refine cw_sd mixed [0, 1, 2, 3, 4, 5] 2 (without _ [6]) (by kernel_rfl) (sub_without _ _) ?_
  refine qi_q rfl rfl (q_field fld31_0 rfl) ?_  -- wide.go:116
  refine qi_q rfl rfl (q_loadW 2 agg29 rfl rfl rfl) ?_  -- wide.go:116
  refine qi_q rfl rfl (q_field fld31_0 rfl) ?_  -- wide.go:116
  refine qi_q rfl rfl (q_loadW 3 agg29 rfl rfl rfl) ?_  -- wide.go:116
  refine qi_q rfl rfl (q_pure ent86 rfl (wide_not (lim b) fun j _ => lim_lm b j)) ?_  -- wide.go:116
  refine qi_q rfl rfl (q_pure ent85 rfl wide_sub_Wl) ?_  -- wide.go:116
  refine qi_nil ?_
  refine tail_one 6 (by kernel_rfl) rfl rfl (s_allocA 6 rfl zer71 fun b6 => ⟨(subl_cons rfl (sub_without _ _)), ?_⟩)  -- wide.go:116
  refine tail_one 7 (by kernel_rfl) rfl rfl (s_storeW 6 siz71 rfl rfl rfl rfl rfl rfl ⟨(subl_cons rfl (subl_cons rfl (sub_without _ _))), ?_⟩)  -- wide.go:116
  refine tail_nil (by kernel_rfl) ?_
  refine cw_seq ?_
  refine cw_sd mixed [0, 1, 2, 3, 4, 5, 6, 7, 8, 9, 10, 11, 12, 13, 14] 0 _ (by kernel_rfl) (SubL.refl _) ?_
  refine qi_q rfl rfl (q_field fld31_0 rfl) ?_  -- wide.go:117
  refine qi_q rfl rfl (q_loadW 2 agg29 rfl rfl rfl) ?_  -- wide.go:117
  refine qi_q rfl rfl (q_pure ent87 rfl (wide_neg a ha)) ?_  -- wide.go:117
  refine qi_q rfl rfl (q_field fld31_0 rfl) ?_  -- wide.go:117
  refine qi_q rfl rfl (q_loadW 3 agg29 rfl rfl rfl) ?_  -- wide.go:117
  refine qi_q rfl rfl (q_pure ent87 rfl (wide_neg b hb)) ?_  -- wide.go:117
  refine qi_q rfl rfl (q_bneq bool4 rfl rfl h) ?_  -- wide.go:117
  refine qi_q rfl rfl (q_move rfl) ?_  -- wide.go:117
  refine qi_gn rfl rfl rfl rfl rfl ?_  -- wide.go:117
  refine qi_gn rfl rfl rfl rfl rfl ?_  -- wide.go:117
  refine qi_gn rfl rfl rfl rfl rfl ?_  -- wide.go:117
  refine qi_gn rfl rfl rfl rfl rfl ?_  -- wide.go:117
  refine qi_gn rfl rfl rfl rfl rfl ?_  -- wide.go:117
  refine qi_gn rfl rfl rfl rfl rfl ?_  -- wide.go:117
  refine qi_q rfl rfl (q_pick_f rfl rfl) ?_  -- wide.go:117
  refine qi_nil ?_
  refine tail_nil (by kernel_rfl) ?_
  refine cw_cond _ rfl (fun hc1 => ?_) (fun hc1 => ?_)
  · cases hc1
  · -- no 1
    refine cw_skip ?_
    refine at_then ?_
    refine cw_sr ?_
    refine steps_q rfl (q_loadW 6 agg71 rfl rfl rfl) ?_  -- wide.go:120
    refine steps_q rfl (q_build (vs := [(0, _)]) rfl rfl (bldW _)) ?_  -- wide.go:120
    refine steps_s (s_storeW 4 siz31 rfl rfl rfl rfl rfl rfl ?_)  -- wide.go:120
    refine steps_q rfl (q_assign rfl) ?_  -- wide.go:120
    refine steps_nil ?_
    refine cw_ret ?_
    exact ret_pure rfl (rv_agg 4 agg31 rfl rfl rfl (rv_tmp rfl rv_nil)) rfl
theorem wide_Sub (hs : Fits (a - b)) : PureF Tryz.prog 49 [.agg (Wl a).toArray, .agg (Wl b).toArray] (.tuple #[.agg (Wl (a - b)).toArray, .bool true]) := by
  cases h : (decide (a < 0) != decide (b < 0))
  · exact wide_Sub_same ha hb h
  · exact wide_Sub_unlike ha hb hs h
end
theorem fits0 : Fits 0 := by unfold Fits; rw [M512_eq]; omega
theorem wide_Neg {a : Int} (ha : Fits a) (hs : Fits (-a)) : PureF Tryz.prog 31 [.agg (Wl a).toArray] (.tuple #[.agg (Wl (-a)).toArray, .bool true]) := by
  have e := wide_Sub (a := 0) fits0 ha (by rwa [Int.zero_sub])
  rw [Int.zero_sub] at e
  refine pure_of Tryz.func31 rfl Tryz.ntmps31 rfl fun w => ?_
  refine cw_sr ?_
  refine steps_s (s_boxA 1 rfl rfl fun b1 => ?_)  -- wide.go:103
  refine steps_s (s_allocA 2 rfl zer31 fun b2 => ?_)  -- wide.go:103
  refine steps_q rfl (q_assign rfl) ?_  -- wide.go:103
  refine steps_nil ?_
  refine cw_sr ?_
  refine steps_q rfl (q_build (vs := []) rfl rfl bldW0) ?_  -- wide.go:103
  refine steps_q rfl (q_loadW 1 agg31 rfl rfl rfl) ?_  -- wide.go:103
  refine steps_q rfl (q_pure ent49 rfl e) ?_  -- wide.go:103
  refine steps_q rfl (q_extract rfl rfl) ?_  -- wide.go:103
  refine steps_q rfl (q_extract rfl rfl) ?_  -- wide.go:103
  refine steps_s (s_storeW 2 siz31 rfl rfl rfl rfl rfl rfl ?_)  -- wide.go:103
  refine steps_q rfl (q_assign rfl) ?_  -- wide.go:103
  refine steps_nil ?_
  refine cw_ret ?_
  exact ret_pure rfl (rv_agg 2 agg31 rfl rfl rfl (rv_tmp rfl rv_nil)) rfl
end Go.Proofs.YtomdahjakkifbaaGreat

/-
  '==' on structs and arrays of whole numbers.
-/
namespace Go.NP
open Go Go.RowKit
section
variable {P : Program}

theorem run_part_agg {t : TypeId} {s off : Nat} {l vs : List Value} (hA : Agg P t s) (hp : Part l off s vs) (w : World) : (part t l.toArray off).run P w = .ok (.agg vs.toArray) w := by
  have hs : Siz P t s := hA.2
  have he : l.toArray.extract off (off + s) = vs.toArray := by rw [List.extract_toArray, List.extract_eq_take_drop, Nat.add_sub_cancel_left, hp.1]
  have := run_isAgg_agg hA w
  simp [part, this, run_sizeOf hs, he, -List.extract_toArray]
theorem run_part_one {t : TypeId} {off : Nat} {l : List Value} {v : Value} (hO : OneT P t) (hv : l[off]? = some v) (w : World) : (part t l.toArray off).run P w = .ok v w := by
  have := run_isAgg_one hO w
  simp [part, this, hv]

theorem eqFields_nil (d : Nat) (xs ys : Array Value) (w : World) : (Op.eqFields d xs ys []).run P w = .ok true w := by simp [Op.eqFields]
theorem eqFields_cons {d : Nat} {xs ys : Array Value} {f : Field} {fs : List Field} {a b : Value} {r s : Bool} {w : World} (hn : (f.name == "_") = false) (ha : (part f.type xs f.offset).run P w = .ok a w) (hb : (part f.type ys f.offset).run P w = .ok b w)
    (he : (Op.equalIn d f.type a b).run P w = .ok r w) (hs : (Op.eqFields d xs ys fs).run P w = .ok s w) : (Op.eqFields d xs ys (f :: fs)).run P w = .ok (r && s) w := by
  have hn' : f.name ≠ "_" := by simpa using hn
  simp only [Op.eqFields]
  rw [if_pos hn']
  simp only [Sem.run_bind, ha, hb, he, Result.andThen_ok]
  cases r
  · simp
  · simp [hs]

/-- An array: element by element. -/
theorem run_equalIn_array {t e : TypeId} {n s d : Nat} (hA : Arr P t e n s) {xs ys : Array Value} {f : Nat → Bool} {w : World} (h : ∀ i, i < n → (do let a ← part e xs (i * s); let b ← part e ys (i * s); Op.equalIn d e a b : Sem Bool).run P w = .ok (f i) w) :
    (Op.equalIn (d + 1) t (.agg xs) (.agg ys)).run P w = .ok ((List.range n).all f) w := by
  have hs : Siz P e s := hA.2
  simp only [Op.equalIn, Sem.run_bind, run_underlying hA.1, Result.andThen_ok, run_sizeOf hs]
  rw [Std.Legacy.Range.forIn_eq_forIn_range']
  have key : ∀ (m k : Nat), k + m = n →
      (forIn (List.range' k m) ((none, ()) : Option Bool × Unit) (fun i _ => do
        let a ← part e xs (i * s)
        let b ← part e ys (i * s)
        let q ← Op.equalIn d e a b
        if (!q) = true then pure (ForInStep.done (some false, ())) else pure (ForInStep.yield (none, ()))) : Sem (Option Bool × Unit)).run P w =
      Result.ok (if (List.range' k m).all f then (none, ()) else (some false, ())) w := by
    intro m
    induction m with
    | zero => intro k _; simp
    | succ m ih =>
      intro k hk
      have hi := h k (by omega)
      simp only [Sem.run_bind] at hi
      simp only [List.range'_succ, List.forIn_cons, List.all_cons, Sem.run_bind]
      cases h1 : (part e xs (k * s)).run P w with
      | halt x w1 => simp [h1, Result.andThen] at hi
      | ok a w1 =>
        simp only [h1, Result.andThen_ok] at hi ⊢
        cases h2 : (part e ys (k * s)).run P w1 with
        | halt x w2 => simp [h2, Result.andThen] at hi
        | ok b w2 =>
          simp only [h2, Result.andThen_ok] at hi ⊢
          rw [hi]
          simp only [Result.andThen_ok]
          cases hf : f k
          · simp
          · simp only [Bool.not_true, Bool.false_eq_true, if_false, Sem.run_pure, Result.andThen_ok, Bool.true_and]
            have := ih (k + 1) (by omega)
            simpa [Sem.run_bind] using this
  have h0 := key n 0 (by omega)
  have e0 : ([:n].start = 0) ∧ ([:n].size = n) ∧ ([:n].step = 1) := ⟨rfl, by simp [Std.Legacy.Range.size], rfl⟩
  rw [e0.1, e0.2.1, e0.2.2, h0]
  rw [List.range_eq_range']
  cases (List.range' 0 n).all f <;> simp

/-- What '==' tells of eight limbs. -/
theorem eq_limbs {t e : TypeId} (hA : Arr P t e 8 1) (hO : OneT P e) (hI : P.underlying e = some (.int .u64)) (d : Nat) (g h : Nat → Int) (w : World) :
    (Op.equalIn (d + 2) t (.agg (L8 g).toArray) (.agg (L8 h).toArray)).run P w = .ok ((List.range 8).all fun i => g i == h i) w := by
  refine run_equalIn_array hA fun i hi => ?_
  have get : ∀ k : Nat → Int, (L8 k)[i * 1]? = some (.int .u64 (k i)) := fun k => by
    have : i = 0 ∨ i = 1 ∨ i = 2 ∨ i = 3 ∨ i = 4 ∨ i = 5 ∨ i = 6 ∨ i = 7 := by omega
    rcases this with rfl | rfl | rfl | rfl | rfl | rfl | rfl | rfl <;> rfl
  simp only [Sem.run_bind, run_part_one hO (get g), run_part_one hO (get h), Result.andThen_ok, run_equalIn_int w d e .u64 .u64 _ _ hI]
theorem limbs_beq (m n : Int) (hm : Fits m) (hn : Fits n) : ((List.range 8).all fun i => lim m i == lim n i) = decide (m = n) := by
  rw [Bool.eq_iff_iff, decide_eq_true_iff, List.all_eq_true]
  constructor
  · intro h
    refine Wl_inj hm hn (L8_congr fun j hj => ?_)
    simpa using h j (by simpa using hj)
  · rintro rfl i _; simp
end
end Go.NP
