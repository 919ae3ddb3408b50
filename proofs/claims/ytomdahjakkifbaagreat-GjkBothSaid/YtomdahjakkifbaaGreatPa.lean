/-
  The logic that all the proofs of this seed are written in: what a frame and a memory are known to hold, step by step. A region that draws its order: what reads alone is walked once, in one order; what is left, in each order that may be. OneT law for each kind of operation. The begin and the end of a walk; whole numbers within bounds. More of the logic: where ways meet. A range over a function: the statement, its rounds, the function that is ranged over.
-/
import Derived.WalkKit
import Derived.Deep.QuietTactic
import Derived.BigQuiet
import Derived.Lib.QuietBelow
import Derived.OrdersIn
import Derived.ScopeJumps
import Derived.RangeFuncRecord
import Derived.RangeFuncSeq

/-
  The logic that all the proofs of this seed are written in: what a frame and a memory are known to hold, step by step.
-/
namespace Go.NP
open Go Go.RowKit

/-! ## What is known of a frame and of memory -/

def look {α : Type} : List (Nat × α) → Nat → Option α
  | [], _ => none
  | (k, v) :: r, n => bif Nat.beq k n then some v else look r n

abbrev TL := List (Nat × Value)
abbrev HL := List (Nat × (Nat × Obj))

theorem look_cons {α : Type} (k n : Nat) (v : α) (r : List (Nat × α)) : look ((k, v) :: r) n = if k = n then some v else look r n := by
  simp only [look]
  by_cases h : k = n
  · subst h; simp
  · rw [if_neg h]; have : Nat.beq k n = false := by
      cases hb : Nat.beq k n
      · rfl
      · exact absurd (Nat.eq_of_beq_eq_true hb) h
    simp [this]

/-- The deferred calls of a frame, and of which range over a function it is a round (none: it is an activation). -/
structure Dfr where
  l : List Deferred
  r : Option Nat
abbrev D0 : Dfr := ⟨[], none⟩

/-- The frame: N slots, deferred calls D, and the slots of T known. -/
structure Fr (N : Nat) (D : Dfr) (a : Act) (T : TL) : Prop where
  size : a.tmps.size = N
  defers : a.defers = D.l
  tm : ∀ k v, look T k = some v → a.tmps[k]? = some v

/-- Memory: of what lay there when the call began (w0) only blocks of M may have turned; the blocks of L are known. -/
structure St (w0 : World) (M : List Nat) (w : World) (L : HL) : Prop where
  os : w.os = w0.os
  tape : w.tape = w0.tape
  output : w.output = w0.output
  size : w0.heap.size ≤ w.heap.size
  old : ∀ k, k < w0.heap.size → k ∉ M → w.heap[k]? = w0.heap[k]?
  known : ∀ i b o, look L i = some (b, o) → w.heap[b]? = some o ∧ (w0.heap.size ≤ b ∨ b ∈ M)
  apart : ∀ i j b o c p, look L i = some (b, o) → look L j = some (c, p) → i ≠ j → b ≠ c

theorem St.lt {w0 : World} {M : List Nat} {w : World} {L : HL} (h : St w0 M w L) {i b : Nat} {o : Obj} (hl : look L i = some (b, o)) : b < w.heap.size :=
  (Array.getElem?_eq_some_iff.1 (h.known i b o hl).1).1

/-- At the call's begin. -/
theorem St.start (w : World) : St w [] w [] :=
  ⟨rfl, rfl, rfl, Nat.le_refl _, fun _ _ _ => rfl, fun i b o h => (by simp [look] at h), fun i j b o c p h => (by simp [look] at h)⟩

/-- At the begin, one old block that may be written. -/
theorem St.start1 (w : World) {i b : Nat} {o : Obj} (h : w.heap[b]? = some o) : St w [b] w [(i, (b, o))] := by
  refine ⟨rfl, rfl, rfl, Nat.le_refl _, fun _ _ _ => rfl, fun j c p hl => ?_, fun j k c p d q h1 h2 hne => ?_⟩
  · rw [look_cons] at hl
    split at hl
    · cases hl; exact ⟨h, .inr (by simp)⟩
    · simp [look] at hl
  · rw [look_cons] at h1 h2
    split at h1
    · split at h2
      · omega
      · simp [look] at h2
    · simp [look] at h1

/-- Two old blocks that may be written. -/
theorem St.start2 (w : World) {i j b c : Nat} {o p : Obj} (hbc : b ≠ c) (h : w.heap[b]? = some o) (h' : w.heap[c]? = some p) : St w [b, c] w [(i, (b, o)), (j, (c, p))] := by
  refine ⟨rfl, rfl, rfl, Nat.le_refl _, fun _ _ _ => rfl, fun x d q hl => ?_, fun x y d q e r h1 h2 hne => ?_⟩
  · simp only [look_cons] at hl
    split at hl
    · cases hl; exact ⟨h, .inr (by simp)⟩
    · split at hl
      · cases hl; exact ⟨h', .inr (by simp)⟩
      · simp [look] at hl
  · simp only [look_cons] at h1 h2
    split at h1
    · cases h1
      split at h2
      · omega
      · split at h2
        · cases h2; exact hbc
        · simp [look] at h2
    · split at h1
      · cases h1
        split at h2
        · cases h2; exact Ne.symm hbc
        · split at h2
          · omega
          · simp [look] at h2
      · simp [look] at h1

theorem St.below {w0 w : World} {L : HL} (h : St w0 [] w L) : Below w0.heap.size w0 w := ⟨h.os, h.tape, h.output, h.size, fun k hk => h.old k hk (by simp)⟩

/-- Knowing less. -/
theorem St.weaken {w0 : World} {M : List Nat} {w : World} {L L' : HL} (h : St w0 M w L) (hs : ∀ i x, look L' i = some x → look L i = some x) : St w0 M w L' :=
  ⟨h.os, h.tape, h.output, h.size, h.old, fun i b o hl => h.known i b o (hs i _ hl), fun i j b o c p h1 h2 hne => h.apart i j b o c p (hs i _ h1) (hs j _ h2) hne⟩

theorem Fr.weaken {N : Nat} {D : Dfr} {a : Act} {T T' : TL} (h : Fr N D a T) (hs : ∀ i x, look T' i = some x → look T i = some x) : Fr N D a T' :=
  ⟨h.size, h.defers, fun k v hv => h.tm k v (hs k v hv)⟩

/-- The world has grown; nothing that was there has turned. -/
theorem St.grow {w0 : World} {M : List Nat} {w w' : World} {L : HL} (h : St w0 M w L) (hb : Below w.heap.size w w') : St w0 M w' L :=
  ⟨hb.os.trans h.os, hb.tape.trans h.tape, hb.output.trans h.output, Nat.le_trans h.size hb.size,
   fun k hk hm => (hb.block k (Nat.lt_of_lt_of_le hk h.size)).trans (h.old k hk hm),
   fun i b o hl => ⟨(hb.block b (h.lt hl)).trans (h.known i b o hl).1, (h.known i b o hl).2⟩, h.apart⟩

theorem St.drawn {w0 : World} {M : List Nat} {w : World} {L : HL} (h : St w0 M w L) (n : Nat) : St w0 M { w with drawn := n } L :=
  ⟨h.os, h.tape, h.output, h.size, h.old, h.known, h.apart⟩

/-- A block more that is known. -/
theorem St.add {w0 : World} {M : List Nat} {w : World} {L : HL} (h : St w0 M w L) {i b : Nat} {o : Obj} (hb : w.heap[b]? = some o) (hlo : w0.heap.size ≤ b)
    (hn : ∀ j c p, look L j = some (c, p) → c ≠ b) : St w0 M w ((i, (b, o)) :: L) := by
  refine ⟨h.os, h.tape, h.output, h.size, h.old, fun j c p hl => ?_, fun j k c p d q h1 h2 hne => ?_⟩
  · rw [look_cons] at hl
    split at hl
    · cases hl; exact ⟨hb, .inl hlo⟩
    · exact h.known j c p hl
  · rw [look_cons] at h1 h2
    split at h1
    · cases h1
      split at h2
      · omega
      · exact Ne.symm (hn _ _ _ h2)
    · split at h2
      · cases h2; exact hn _ _ _ h1
      · exact h.apart j k c p d q h1 h2 hne

/-- A new block. -/
theorem St.alloc {w0 : World} {M : List Nat} {w : World} {L : HL} (h : St w0 M w L) (i : Nat) (o : Obj) : St w0 M (w.alloc o) ((i, (w.heap.size, o)) :: L) :=
  (h.grow ((Below.refl _ _).alloc (Nat.le_refl _) o)).add (heap_alloc_new w o) h.size (fun j c p hl => by have := h.lt hl; omega)

/-- A block that is known is another one now. -/
theorem St.set {w0 : World} {M : List Nat} {w w' : World} {L : HL} (h : St w0 M w L) {i b : Nat} {o o' : Obj} (hl : look L i = some (b, o))
    (hm : w'.os = w.os ∧ w'.tape = w.tape ∧ w'.output = w.output ∧ w.heap.size ≤ w'.heap.size) (hother : ∀ k, k < w.heap.size → k ≠ b → w'.heap[k]? = w.heap[k]?) (hb : w'.heap[b]? = some o') : St w0 M w' ((i, (b, o')) :: L) := by
  refine ⟨hm.1.trans h.os, hm.2.1.trans h.tape, hm.2.2.1.trans h.output, Nat.le_trans h.size hm.2.2.2, fun k hk hM => ?_, fun j c p hj => ?_, fun j k c p d q h1 h2 hne => ?_⟩
  · rw [hother k (Nat.lt_of_lt_of_le hk h.size) ?_]
    · exact h.old k hk hM
    · rintro rfl
      rcases (h.known i k o hl).2 with h' | h'
      · omega
      · exact hM h'
  · rw [look_cons] at hj
    split at hj
    · cases hj; exact ⟨hb, (h.known i b o hl).2⟩
    · rename_i hij
      have := h.known j c p hj
      exact ⟨(hother c (h.lt hj) (h.apart j i c p b o hj hl (Ne.symm hij))).trans this.1, this.2⟩
  · rw [look_cons] at h1 h2
    split at h1
    · cases h1
      split at h2
      · omega
      · rename_i hij; exact h.apart i k b o d q hl h2 (by omega)
    · split at h2
      · cases h2; rename_i hij _; exact h.apart j i c p b o h1 hl (by omega)
      · exact h.apart j k c p d q h1 h2 hne

/-! ## Operands -/

def ev (T : TL) : Operand → Option Value
  | .tmp k => look T k
  | .const v => some v
  | .global g => some (.pointer (some ⟨g, 0, none⟩))
  | .func f => some (.func (.func f) #[] #[])

def evs (T : TL) : List Operand → Option (List Value)
  | [] => some []
  | x :: r => match ev T x, evs T r with
    | some v, some vs => some (v :: vs)
    | _, _ => none

theorem Fr.ev {N : Nat} {D : Dfr} {a : Act} {T : TL} (h : Fr N D a T) {x : Operand} {v : Value} (hx : ev T x = some v) : a.eval x = v := by
  cases x with
  | tmp k => have := h.tm k v hx; simp [Act.eval, this]
  | const c => simp only [NP.ev, Option.some.injEq] at hx; exact hx
  | global g => simp only [NP.ev, Option.some.injEq] at hx; exact hx
  | func f => simp only [NP.ev, Option.some.injEq] at hx; exact hx

theorem Fr.evs {N : Nat} {D : Dfr} {a : Act} {T : TL} (h : Fr N D a T) : ∀ {xs : List Operand} {vs : List Value}, evs T xs = some vs → xs.map a.eval = vs
  | [], vs, hx => by simp only [NP.evs, Option.some.injEq] at hx; subst hx; rfl
  | x :: r, vs, hx => by
    simp only [NP.evs] at hx
    split at hx
    · rename_i v ws h1 h2
      cases hx
      rw [List.map_cons, h.ev h1, h.evs h2]
    · cases hx

theorem Fr.put {N : Nat} {D : Dfr} {a : Act} {T : TL} (h : Fr N D a T) {d : Nat} (hd : d < N) (v : Value) : Fr N D (a.put (some d) v) ((d, v) :: T) := by
  refine ⟨by simp [Act.put, h.size], h.defers, fun k u hk => ?_⟩
  rw [look_cons] at hk
  split at hk
  · rename_i e; subst e; cases hk; simp [Act.put, h.size, hd]
  · rename_i e; simp [Act.put, Array.getElem?_setIfInBounds_ne e, h.tm k u hk]

theorem Fr.putNone {N : Nat} {D : Dfr} {a : Act} {T : TL} (h : Fr N D a T) (v : Value) : Fr N D (a.put none v) T := h

/-! ## One operation -/

section
variable {P : Program} {w0 : World} {M : List Nat} {N : Nat} {D : Dfr}

/-- The fence that lets everything by, in round r. -/
def fw (r : Option Nat) : Fence := { Fence.wide with round := r }
theorem callsIn_fw {r : Option Nat} {n : Nat} {f : FuncId} {args : Array Value} {w : World} {R : Ending → World → Prop} (h : Calls P f args w R) : CallsIn (fw r) n P f args w R :=
  (callsIn_wide.2 h : CallsIn Fence.wide n P f args w R)
theorem rowsIn_fw {r : Option Nat} {n : Nat} {row : String} {args : Array Value} {w : World} {R : Value → World → Prop} (h : Rows P row args w R) : RowsIn (fw r) n P row args w R :=
  fun c cs _ => let ⟨v, w', h1, h2⟩ := h c cs; ⟨v, w', h1, stepsIn_wide.2 h2⟩
theorem wpIn_of_wp {r : Option Nat} {n : Nat} {o : Oper} {a : Act} {w : World} {K : Act → World → Prop} {Q : Exit → Act → World → Prop} (hnd : ∀ c, o.op ≠ .defer c) (h : o.wp P a w K Q) : o.wpIn (fw r) n P a w K Q := by
  refine ⟨fun _ _ => trivial, ?_⟩
  rw [Oper.semAt_eq _ _ _ hnd]
  unfold Oper.wp at h
  generalize (execOp a.eval o).run P w = s at *
  cases s with
  | ok x w' =>
    cases x <;> simp only [Oper.upon] at h <;> simp only [Oper.uponIn]
    case value => exact h
    case skip => exact h
    case defer => exact h
    case enter f args => exact ⟨fun hd => (nomatch (hd : false = true)), callsIn_fw h⟩
    case row => exact ⟨fun hd => (nomatch (hd : false = true)), rowsIn_fw h⟩
  | halt x w' => cases x <;> simp only [Oper.upon] at h <;> simp only [Oper.uponIn]; exact h
theorem quiet_nodefer {o : Oper} {a : Act} {w : World} {R : World → Prop} {v : Value} (h : Oper.quietAt P o a R w v) : ∀ c, o.op ≠ .defer c := by
  intro c hc
  unfold Oper.quietAt at h
  have e : (execOp a.eval o) = (do pure (.defer (← resolve a.eval c o.type)) : Sem Next) := by simp only [execOp, hc]
  rw [e, Sem.run_bind] at h
  generalize (resolve a.eval c o.type).run P w = s at h
  cases s with
  | ok d w' => simp [Result.andThen, Oper.quietUpon] at h
  | halt x w' => simp [Result.andThen, Oper.quietUpon] at h

/-- What an operation comes to: K of what is known behind it. -/
def Step (P : Program) (w0 : World) (M : List Nat) (N : Nat) (D : Dfr) (o : Oper) (T : TL) (L : HL) (K : TL → HL → Prop) (Q : Exit → Act → World → Prop) : Prop :=
  ∀ a w, Fr N D a T → St w0 M w L → o.wpIn (fw D.r) 0 P a w (fun a' w' => ∃ T' L', Fr N D a' T' ∧ St w0 M w' L' ∧ K T' L') Q

/-- It hands back v, and turns nothing that is known or was there. -/
def Quiet (P : Program) (w0 : World) (M : List Nat) (N : Nat) (D : Dfr) (o : Oper) (T : TL) (L : HL) (v : Value) : Prop :=
  ∀ a w, Fr N D a T → St w0 M w L → Oper.quietAt P o a (fun w' => St w0 M w' L ∧ Below w.heap.size w w') w v

theorem Quiet.step {o : Oper} {d : Nat} {T : TL} {L : HL} {v : Value} {K : TL → HL → Prop} {Q : Exit → Act → World → Prop} (hd : o.dst = some d) (hN : d < N)
    (h : Quiet P w0 M N D o T L v) (k : K ((d, v) :: T) L) : Step P w0 M N D o T L K Q := by
  intro a w ha hw
  have h3 := h a w ha hw
  refine wpIn_of_wp (quiet_nodefer h3) ?_
  unfold Oper.quietAt at h3
  unfold Oper.wp
  generalize (execOp a.eval o).run P w = r at *
  cases r with
  | ok n w' =>
    cases n <;> simp only [Oper.quietUpon] at h3 <;> simp only [Oper.upon]
    case value u =>
      obtain ⟨e1, e2⟩ := h3
      rw [e1, e2, hd]
      exact ⟨_, _, ha.put hN v, hw, k⟩
    case skip =>
      obtain ⟨e1, e2⟩ := h3
      rw [e1, ← e2, hd]
      exact ⟨_, _, ha.put hN v, hw, k⟩
    case enter f args =>
      obtain ⟨e1, hc⟩ := h3
      rw [e1]
      exact hc.mono fun e w'' ⟨he, hw'', _⟩ => by subst he; rw [hd]; exact ⟨_, _, ha.put hN v, hw'', k⟩
  | halt x w' => simp only [Oper.quietUpon] at h3

/-- The operations of a region from number i on, in order. -/
def Steps (P : Program) (w0 : World) (M : List Nat) (N : Nat) (D : Dfr) (ops : Array Oper) : List Oper → TL → HL → (TL → HL → Prop) → (Exit → Act → World → Prop) → Prop
  | [], T, L, K, _ => K T L
  | o :: r, T, L, K, Q => match o.guard with
    | none => Step P w0 M N D o T L (fun T' L' => Steps P w0 M N D ops r T' L' K Q) Q
    | some (j, want) => ∃ d b, (ops[j]?).bind (·.dst) = some d ∧ look T d = some (.bool b) ∧
        if b = want then Step P w0 M N D o T L (fun T' L' => Steps P w0 M N D ops r T' L' K Q) Q
        else match o.dst with
          | some e => e < N ∧ Steps P w0 M N D ops r ((e, undef) :: T) L K Q
          | none => Steps P w0 M N D ops r T L K Q

theorem wanted_none {o : Oper} (h : o.guard = none) (y : Nat → Option Bool) : Region.wanted o y = true := by simp [Region.wanted, h]

theorem wanted_some {o : Oper} {ops : Array Oper} {a : Act} {T : TL} {j d : Nat} {want b : Bool} (ha : Fr N D a T) (hg : o.guard = some (j, want)) (hd : (ops[j]?).bind (·.dst) = some d) (hb : look T d = some (.bool b)) :
    Region.wanted o (yielded ops a.tmps) = (b == want) := by
  have h1 := ha.tm _ _ hb
  simp [Region.wanted, hg, yielded, hd, h1]

/-- In order, none drawn. -/
theorem steps_wpOps {ops : Array Oper} {Q : Exit → Act → World → Prop} {K : TL → HL → Prop} (hK : ∀ T L, K T L → ∀ a w, Fr N D a T → St w0 M w L → Q .normal a w) :
    ∀ (l : List Oper) (i : Nat), (∀ j, l[j]? = ops[i + j]?) → ∀ T L, Steps P w0 M N D ops l T L K Q → ∀ a w, Fr N D a T → St w0 M w L → wpOpsIn (fw D.r) 0 P ops Q (List.range' i l.length) a w
  | [], i, hl, T, L, h, a, w, ha, hw => by simpa [wpOpsIn] using hK T L h a w ha hw
  | o :: r, i, hl, T, L, h, a, w, ha, hw => by
    have h0 : ops[i]? = some o := by simpa using (hl 0).symm
    have hr : ∀ j, r[j]? = ops[(i + 1) + j]? := fun j => by have := hl (j + 1); simpa [Nat.add_assoc, Nat.add_comm 1 j] using this
    have ih := steps_wpOps hK r (i + 1) hr
    simp only [List.length_cons, List.range'_succ, wpOpsIn, h0]
    simp only [Steps] at h
    split at h
    · rename_i hg
      rw [wanted_none hg]
      simp only [if_true]
      exact Oper.wpIn_mono (fun a' w' ⟨T', L', h1, h2, h3⟩ => ih T' L' h3 a' w' h1 h2) (h a w ha hw)
    · rename_i j want hg
      obtain ⟨d, b, hd, hb, h⟩ := h
      rw [wanted_some ha hg hd hb]
      by_cases hbw : b = want
      · simp only [hbw, if_true, beq_self_eq_true] at h ⊢
        exact Oper.wpIn_mono (fun a' w' ⟨T', L', h1, h2, h3⟩ => ih T' L' h3 a' w' h1 h2) (h a w ha hw)
      · have hne : (b == want) = false := by simpa using hbw
        simp only [hbw, if_false] at h
        simp only [hne, Bool.false_eq_true, if_false]
        split at h
        · rename_i e he
          rw [he]
          exact ⟨fun _ _ => trivial, ih _ _ h.2 _ _ (ha.put h.1 undef) hw⟩
        · rename_i he
          rw [he]
          exact ⟨fun _ _ => trivial, ih _ _ h _ _ ha hw⟩

/-! ## Code -/

def CW (P : Program) (w0 : World) (M : List Nat) (N : Nat) (D : Dfr) (c : Code) (T : TL) (L : HL) (Q : Exit → Act → World → Prop) : Prop :=
  ∀ a w, Fr N D a T → St w0 M w L → c.wpIn (fw D.r) 0 P Q a w

/-- What stands at the end of a piece of code. -/
def At (w0 : World) (M : List Nat) (N : Nat) (D : Dfr) (Q : Exit → Act → World → Prop) (e : Exit) (T : TL) (L : HL) : Prop :=
  ∀ a w, Fr N D a T → St w0 M w L → Q e a w

variable {Q : Exit → Act → World → Prop} {T : TL} {L : HL}

theorem cw_region {id : Nat} {l : List Oper} (h : Steps P w0 M N D l.toArray l T L (fun T' L' => At w0 M N D Q .normal T' L') Q) : CW P w0 M N D (.region id l.toArray false) T L Q := by
  intro a w ha hw
  refine wpIn_region ?_
  have := steps_wpOps (P := P) (ops := l.toArray) (K := fun T' L' => At w0 M N D Q .normal T' L') (Q := Q) (fun T L h a w => h a w) l 0 (by simp) T L h a w ha hw
  simpa [List.range_eq_range'] using this

theorem cw_seq {x y : Code} (h : CW P w0 M N D x T L (Exit.then (y.wpIn (fw D.r) 0 P Q) Q)) : CW P w0 M N D (.seq x y) T L Q :=
  fun a w ha hw => wpIn_seq (h a w ha hw)

theorem step_then {o : Oper} {T : TL} {L : HL} {K : TL → HL → Prop} {next : Act → World → Prop} (h : Step P w0 M N D o T L K Q) : Step P w0 M N D o T L K (Exit.then next Q) := by
  intro a w ha hw
  have := h a w ha hw
  refine ⟨this.1, ?_⟩
  have := this.2
  generalize (o.semAt (fw D.r).round a.eval).run P w = r at *
  cases r with
  | ok n w' =>
    cases n <;> simp only [Oper.uponIn] at this ⊢
    case enter f args =>
      refine ⟨this.1, this.2.mono fun e w'' he => ?_⟩
      cases e with
      | returned v => exact he
      | panicked c => exact he
      | outgrown => exact he
    case round l f tmps assign body =>
      refine ⟨this.1, this.2.mono fun e w'' he => ?_⟩
      cases e with
      | returned v => exact he
      | panicked c => exact he
      | outgrown => exact he
    all_goals exact this
  | halt x w' => cases x <;> simp only [Oper.uponIn] at this ⊢ <;> exact this

theorem steps_then {ops : Array Oper} {next : Act → World → Prop} {K : TL → HL → Prop} : ∀ (l : List Oper) (T : TL) (L : HL), Steps P w0 M N D ops l T L K Q → Steps P w0 M N D ops l T L K (Exit.then next Q)
  | [], _, _, h => h
  | o :: r, T, L, h => by
    simp only [Steps] at h ⊢
    have mono : Step P w0 M N D o T L (fun T' L' => Steps P w0 M N D ops r T' L' K Q) Q → Step P w0 M N D o T L (fun T' L' => Steps P w0 M N D ops r T' L' K (Exit.then next Q)) (Exit.then next Q) := fun h =>
      step_then (fun a w ha hw => Oper.wpIn_mono (fun a' w' ⟨T', L', h1, h2, h3⟩ => ⟨T', L', h1, h2, steps_then r T' L' h3⟩) (h a w ha hw))
    split at h
    · exact mono h
    · obtain ⟨d, b, hd, hb, h⟩ := h
      refine ⟨d, b, hd, hb, ?_⟩
      split at h
      · rename_i e; rw [if_pos e]; exact mono h
      · rename_i e; rw [if_neg e]
        split at h
        · exact ⟨h.1, steps_then r _ _ h.2⟩
        · exact steps_then r _ _ h

/-- A region, and what stands behind it. -/
theorem cw_sr {id : Nat} {l : List Oper} {y : Code} (h : Steps P w0 M N D l.toArray l T L (fun T' L' => CW P w0 M N D y T' L' Q) Q) : CW P w0 M N D (.seq (.region id l.toArray false) y) T L Q :=
  cw_seq (cw_region (steps_then l T L h))

theorem cw_skip (h : At w0 M N D Q .normal T L) : CW P w0 M N D .skip T L Q := fun a w ha hw => wpIn_skip (h a w ha hw)
theorem cw_label {l : Nat} (h : At w0 M N D Q .normal T L) : CW P w0 M N D (.label l) T L Q := fun a w ha hw => wpIn_label (h a w ha hw)
theorem cw_exit {id : Nat} (h : At w0 M N D Q (.exit id) T L) : CW P w0 M N D (.exit id) T L Q := fun a w ha hw => wpIn_exit (h a w ha hw)
theorem cw_ret (h : At w0 M N D Q .ret T L) : CW P w0 M N D .ret T L Q := fun a w ha hw => wpIn_ret (h a w ha hw)
theorem cw_goto {l : Nat} (h : At w0 M N D Q (.goto l) T L) : CW P w0 M N D (.goto l) T L Q := fun a w ha hw => wpIn_goto (h a w ha hw)
theorem cw_block {id : Nat} {c : Code} (h : CW P w0 M N D c T L (Exit.inBlock id Q)) : CW P w0 M N D (.block id c) T L Q := fun a w ha hw => wpIn_block (h a w ha hw)
theorem cw_cond {c : Operand} {x y : Code} (t : Bool) (hc : ev T c = some (.bool t)) (ht : t = true → CW P w0 M N D x T L Q) (hf : t = false → CW P w0 M N D y T L Q) : CW P w0 M N D (.cond c x y) T L Q :=
  fun a w ha hw => wpIn_cond_split (ha.ev hc) (fun h => ht h a w ha hw) (fun h => hf h a w ha hw)

theorem CW.weaken {c : Code} {T' : TL} {L' : HL} (h : CW P w0 M N D c T' L' Q) (hT : ∀ i x, look T' i = some x → look T i = some x) (hL : ∀ i x, look L' i = some x → look L i = some x) : CW P w0 M N D c T L Q :=
  fun a w ha hw => h a w (ha.weaken hT) (hw.weaken hL)

theorem At.weaken {e : Exit} {T' : TL} {L' : HL} (h : At w0 M N D Q e T' L') (hT : ∀ i x, look T' i = some x → look T i = some x) (hL : ∀ i x, look L' i = some x → look L i = some x) : At w0 M N D Q e T L :=
  fun a w ha hw => h a w (ha.weaken hT) (hw.weaken hL)

/-- Where two ways meet: what follows is asked once, of what is known on both. -/
theorem At.of_then {next : Act → World → Prop} (h : ∀ a w, Fr N D a T → St w0 M w L → next a w) : At w0 M N D (Exit.then next Q) .normal T L := fun a w ha hw => h a w ha hw
theorem At.of_then_exit {next : Act → World → Prop} {id : Nat} (h : At w0 M N D Q (.exit id) T L) : At w0 M N D (Exit.then next Q) (.exit id) T L := h
theorem At.of_then_ret {next : Act → World → Prop} (h : At w0 M N D Q .ret T L) : At w0 M N D (Exit.then next Q) .ret T L := h
theorem At.of_block_normal {id : Nat} (h : At w0 M N D Q .normal T L) : At w0 M N D (Exit.inBlock id Q) .normal T L := h
theorem At.of_block_ret {id : Nat} (h : At w0 M N D Q .ret T L) : At w0 M N D (Exit.inBlock id Q) .ret T L := h
theorem At.of_block_here {id : Nat} (h : At w0 M N D Q .normal T L) : At w0 M N D (Exit.inBlock id Q) (.exit id) T L := fun a w ha hw => by
  simp only [Exit.inBlock, if_true]; exact h a w ha hw
theorem At.of_block_other {id i : Nat} (hne : i ≠ id) (h : At w0 M N D Q (.exit i) T L) : At w0 M N D (Exit.inBlock id Q) (.exit i) T L := fun a w ha hw => by
  simp only [Exit.inBlock, if_neg hne]; exact h a w ha hw

/-- A loop: what is known at each round's head is told by a state s; a round lowers a measure. -/
theorem cw_loop {S : Type} {c : Code} (TS : S → TL) (LS : S → HL) (I : S → Prop) (μ : S → Nat) (s0 : S) (h0 : I s0)
    (hT : ∀ i x, look (TS s0) i = some x → look T i = some x) (hL : ∀ i x, look (LS s0) i = some x → look L i = some x)
    (round : ∀ s, I s → CW P w0 M N D c (TS s) (LS s) (Exit.then (fun a w => ∃ s', I s' ∧ μ s' < μ s ∧ Fr N D a (TS s') ∧ St w0 M w (LS s')) Q)) : CW P w0 M N D (.loop c) T L Q := by
  intro a w ha hw b k cs hro hb hr
  have key : ∀ n s, μ s = n → I s → ∀ a w, Fr N D a (TS s) → St w0 M w (LS s) →
      ∃ e a' w', Q e a' w' ∧ ArrivesIn (Machine.fenced P (fw D.r)) P (lone (b.atR a (.code c :: .inLoop c :: k)) cs w) b k cs e a' w' := by
    intro n
    induction n using Nat.strongRecOn with
    | _ n ih =>
      intro s hn hI a w ha hw
      obtain ⟨e, a₁, w₁, hq, harr⟩ := round s hI a w ha hw b (.inLoop c :: k) cs hro hb hr
      cases e with
      | normal =>
        obtain ⟨s', hI₁, hlt, ha₁, hw₁⟩ := hq
        obtain ⟨e₂, a₂, w₂, hq₂, harr₂⟩ := ih (μ s') (hn ▸ hlt) s' rfl hI₁ a₁ w₁ ha₁ hw₁
        exact ⟨e₂, a₂, w₂, hq₂, .of_steps (StepsIn.trans harr (.one (fenced_calm hb hr rfl) stepR_inLoop)) harr₂⟩
      | exit id => exact ⟨_, a₁, w₁, hq, .pass (x := .inLoop c) rfl (fun _ _ => .inl (by simp)) harr⟩
      | goto l => exact ⟨_, a₁, w₁, hq, .pass (x := .inLoop c) rfl (fun _ _ => .inl (by simp)) harr⟩
      | ret => exact ⟨_, a₁, w₁, hq, .pass (x := .inLoop c) rfl (fun _ _ => .inl (by simp)) harr⟩
      | panic ch => exact ⟨_, a₁, w₁, hq, .pass (x := .inLoop c) rfl (fun _ _ => .inl (by simp)) harr⟩
      | outgrown => exact ⟨_, a₁, w₁, hq, .pass (x := .inLoop c) rfl (fun _ _ => .inl (by simp)) harr⟩
  obtain ⟨e, a', w', hq, harr⟩ := key _ s0 rfl h0 a w (ha.weaken hT) (hw.weaken hL)
  exact ⟨e, a', w', hq, .of_steps (.one (fenced_calm hb hr rfl) stepR_loop) harr⟩
end
end Go.NP

/-
  A region that draws its order: what reads alone is walked once, in one order; what is left, in each order that may be.
-/
namespace Go.NP
open Go Go.RowKit

def SubL (L L' : HL) : Prop := ∀ i x, look L i = some x → look L' i = some x
theorem SubL.refl (L : HL) : SubL L L := fun _ _ h => h
theorem SubL.trans {A B C : HL} (h : SubL A B) (k : SubL B C) : SubL A C := fun i x hx => k i x (h i x hx)

def inL : List Nat → Nat → Bool
  | [], _ => false
  | k :: r, n => bif Nat.beq k n then true else inL r n
def without : HL → List Nat → HL
  | [], _ => []
  | p :: r, ids => bif inL ids p.1 then without r ids else p :: without r ids

theorem look_without (ids : List Nat) (i : Nat) : ∀ L : HL, look (without L ids) i = bif inL ids i then none else look L i
  | [] => by simp [without, look]
  | (k, v) :: r => by
    have ih := look_without ids i r
    simp only [without]
    cases hk : inL ids k
    · simp only [cond_false]
      rw [look_cons, look_cons, ih]
      by_cases e : k = i
      · subst e; simp [hk]
      · simp [e]
    · simp only [cond_true]
      rw [ih, look_cons]
      by_cases e : k = i
      · subst e; simp [hk]
      · simp [e]

theorem sub_without (L : HL) (ids : List Nat) : SubL (without L ids) L := fun i x h => by
  rw [look_without] at h
  cases hk : inL ids i <;> simp [hk] at h
  exact h
theorem SubL.cons {L L' : HL} {i : Nat} {x : Nat × Obj} (h : SubL L L') (hn : look L i = none) : SubL L ((i, x) :: L') := fun j y hj => by
  rw [look_cons]
  split
  · rename_i e; subst e; rw [hn] at hj; cases hj
  · exact h j y hj

section
variable {P : Program} {w0 : World} {M : List Nat} {N : Nat} {D : Dfr} {ops : Array Oper} {Lq : HL} {Q : Exit → Act → World → Prop} {Tq : TL} {PQ : List PanicEntry → World → Prop}

/-- What may be told of a panic in such a region: what memory holds, and of the frame what the region does not write. -/
def Px (N : Nat) (D : Dfr) (Tq : TL) (PQ : List PanicEntry → World → Prop) : Exit → Act → World → Prop
  | .panic c, a, w => Fr N D a Tq ∧ PQ c w
  | _, _, _ => False

def keepsT (ops : Array Oper) (Tq : TL) : Bool := ops.toList.all fun o => match o.dst with | some d => (look Tq d).isNone | none => true

theorem Fr.unput {N : Nat} {D : Dfr} {a : Act} {Tq : TL} {d : Option Tmp} {v : Value} (h : Fr N D (a.put d v) Tq) (hd : ∀ e, d = some e → look Tq e = none) : Fr N D a Tq := by
  cases d with
  | none => exact h
  | some e =>
    refine ⟨by simpa [Act.put] using h.size, h.defers, fun k u hk => ?_⟩
    have h1 := h.tm k u hk
    have hne : e ≠ k := by rintro rfl; rw [hd e rfl] at hk; cases hk
    simpa [Act.put, Array.getElem?_setIfInBounds_ne hne] using h1

theorem keepsT_spec {ops : Array Oper} {Tq : TL} (h : keepsT ops Tq = true) {i : Nat} {o : Oper} (ho : ops[i]? = some o) : ∀ e, o.dst = some e → look Tq e = none := by
  intro e he
  have := List.all_eq_true.1 h o (Array.mem_toList_iff.2 (Array.mem_of_getElem? ho))
  simpa [he] using this

theorem wpOp_of_px {i : Nat} {K : Act → World → Prop} {a : Act} {w : World} (hP : ∀ c a w, Fr N D a Tq → PQ c w → Q (.panic c) a w) (h : wpOpIn (fw D.r) 0 P ops (Px N D Tq PQ) i K a w) : wpOpIn (fw D.r) 0 P ops Q i K a w := by
  unfold wpOpIn at *
  split
  · rename_i ho; simp only [ho] at h; exact h
  · rename_i o ho
    simp only [ho] at h
    split
    · rename_i hw
      simp only [hw, if_true] at h
      refine ⟨h.1, ?_⟩
      have h := h.2
      generalize (o.semAt (fw D.r).round a.eval).run P w = r at *
      cases r with
      | ok n w' =>
        cases n <;> simp only [Oper.uponIn] at h ⊢
        case enter f args =>
          refine ⟨h.1, h.2.mono fun e w'' he => ?_⟩
          cases e with
          | returned v => exact he
          | panicked c => exact hP _ _ _ he.1 he.2
          | outgrown => obtain ⟨_, _, he⟩ := he; exact he.elim
        case round l f tmps assign body =>
          refine ⟨h.1, h.2.mono fun e w'' he => ?_⟩
          cases e with
          | returned v => exact he
          | panicked c => exact hP _ _ _ he.1 he.2
          | outgrown => obtain ⟨_, _, he⟩ := he; exact he.elim
        all_goals exact h
      | halt x w' =>
        cases x <;> simp only [Oper.uponIn] at h ⊢
        case panic u => exact hP _ _ _ h.1 h.2
    · rename_i hw; simp only [hw] at h; exact h

def AnyL (P : Program) (w0 : World) (M : List Nat) (N : Nat) (D : Dfr) (Tq : TL) (PQ : List PanicEntry → World → Prop) (ops : Array Oper) (Lq : HL) (Q : Exit → Act → World → Prop) : Nat → Array Bool → Act → HL → Prop
  | 0, listed, a, L => Region.ready .any ops listed = [] ∧ ∀ w, St w0 M w L → Q .normal a w
  | f + 1, listed, a, L => (Region.ready .any ops listed = [] → ∀ w, St w0 M w L → Q .normal a w) ∧
      ∀ i ∈ Region.ready .any ops listed, ∀ w, St w0 M w L → wpOpIn (fw D.r) 0 P ops (Px N D Tq PQ) i (fun a' w' => ∃ L', St w0 M w' L' ∧ SubL Lq L' ∧ AnyL P w0 M N D Tq PQ ops Lq Q f (listed.setIfInBounds i true) a' L') a w

theorem wpAny_of_anyL (hP : ∀ c a w, Fr N D a Tq → PQ c w → Q (.panic c) a w) : ∀ (f : Nat) (listed : Array Bool) (a : Act) (L : HL), AnyL P w0 M N D Tq PQ ops Lq Q f listed a L → ∀ w, St w0 M w L → wpAnyIn (fw D.r) 0 P .any ops Q f listed a w
  | 0, _, _, _, h, w, hw => ⟨h.1, h.2 w hw⟩
  | f + 1, _, _, _, h, w, hw => ⟨fun h0 => h.1 h0 w hw, fun i hi => wpOp_of_px hP (wpOpIn_mono (fun a' w' ⟨L', h1, _, h2⟩ => wpAny_of_anyL hP f _ a' L' h2 w' h1) (h.2 i hi w hw))⟩

/-- Whatever the world, of which Lq is known: v, and nothing that was there has turned. -/
def YieldsQ (P : Program) (w0 : World) (M : List Nat) (ops : Array Oper) (Lq : HL) (o : Oper) (v : Value) (a : Act) : Prop :=
  (Region.wanted o (yielded ops a.tmps) = true ∧ ∀ w, St w0 M w Lq → Oper.quietAt P o a (fun w' => Below w.heap.size w w') w v) ∨
  (Region.wanted o (yielded ops a.tmps) = false ∧ v = undef)

theorem YieldsQ.of_same {o : Oper} {v : Value} {a a' : Act} (hy : YieldsQ P w0 M ops Lq o v a) (he : execOp a'.eval o = execOp a.eval o)
    (hw : Region.wanted o (yielded ops a'.tmps) = Region.wanted o (yielded ops a.tmps)) : YieldsQ P w0 M ops Lq o v a' := by
  unfold YieldsQ Oper.quietAt at *
  rw [he, hw]
  exact hy

theorem semAt_fw {r : Option Nat} (o : Oper) (a : Act) {w : World} {R : World → Prop} {v : Value} (h : Oper.quietAt P o a R w v) : o.semAt r a.eval = execOp a.eval o := Oper.semAt_eq _ _ _ (quiet_nodefer h)

theorem YieldsQ.wpOp {i : Nat} {o : Oper} {v : Value} {a : Act} (hi : ops[i]? = some o) (hy : YieldsQ P w0 M ops Lq o v a) {w : World} (hw : St w0 M w Lq)
    {K : Act → World → Prop} (h : ∀ w', Below w.heap.size w w' → K (a.put o.dst v) w') : wpOpIn (fw D.r) 0 P ops (Px N D Tq PQ) i K a w := by
  unfold Go.wpOpIn
  simp only [hi]
  rcases hy with ⟨hwt, hv⟩ | ⟨hwt, rfl⟩
  · simp only [hwt, if_true]
    have h3 := hv w hw
    refine wpIn_of_wp (quiet_nodefer h3) ?_
    unfold Oper.quietAt at h3
    unfold Oper.wp
    generalize (execOp a.eval o).run P w = r at *
    cases r with
    | ok n w' =>
      cases n <;> simp only [Oper.quietUpon] at h3 <;> simp only [Oper.upon]
      case value u => obtain ⟨e1, e2⟩ := h3; rw [e1, e2]; exact h _ (Below.refl _ _)
      case skip => obtain ⟨e1, e2⟩ := h3; rw [e1, ← e2]; exact h _ (Below.refl _ _)
      case enter f args =>
        obtain ⟨e1, hc⟩ := h3
        rw [e1]
        exact hc.mono fun e w'' ⟨he, hw''⟩ => by subst he; exact h _ hw''
    | halt x w' => simp only [Oper.quietUpon] at h3
  · simp only [hwt, Bool.false_eq_true, if_false]; exact ⟨fun _ _ => trivial, h _ (Below.refl _ _)⟩

theorem semAt_put (o : Oper) {r : Option Nat} (hs : ∀ cs b, o.op ≠ .select cs b) (a : Act) (dst : Option Tmp) (v : Value) (h : ∀ d, dst = some d → d ∉ o.looksAt ops) : o.semAt r (a.put dst v).eval = o.semAt r a.eval := by
  unfold Oper.semAt
  cases r with
  | none => exact execOp_put o hs a dst v h
  | some l =>
    cases ho : o.op
    case defer c =>
      have e : resolve (a.put dst v).eval c o.type = resolve a.eval c o.type := resolve_congr c o.type fun x hx => Act.eval_put fun d hd hxd => h d hd (by
        subst hxd
        exact List.mem_append_left _ (List.mem_filterMap.2 ⟨.tmp d, by simpa [ho, Op.operands] using hx, rfl⟩))
      simp only [e]
    all_goals exact execOp_put o hs a dst v h

theorem wpOp_putQ {j : Nat} {oi oj : Oper} {v : Value} (hkt : ∀ e, oi.dst = some e → look Tq e = none) (hj : ops[j]? = some oj) (hap : oi.apart ops oj = true)
    (hsi : ∀ cs b, oi.op ≠ .select cs b) (hsj : ∀ cs b, oj.op ≠ .select cs b) {K : Act → World → Prop} {a : Act} {w : World}
    (hy : YieldsQ P w0 M ops Lq oi v a) (h : wpOpIn (fw D.r) 0 P ops (Px N D Tq PQ) j K (a.put oi.dst v) w) :
    wpOpIn (fw D.r) 0 P ops (Px N D Tq PQ) j (fun a' w' => YieldsQ P w0 M ops Lq oi v a' ∧ K (a'.put oi.dst v) w') a w := by
  obtain ⟨h1, h2, h3⟩ := Oper.apart_spec hap
  have keep : ∀ (a : Act), YieldsQ P w0 M ops Lq oi v a → ∀ u, YieldsQ P w0 M ops Lq oi v (a.put oj.dst u) := fun a hy u =>
    hy.of_same (execOp_put oi hsi a oj.dst u h3) (wanted_put oi a oj.dst u h3)
  have keepD : ∀ d, YieldsQ P w0 M ops Lq oi v { a with defers := d :: a.defers } := fun d => hy.of_same rfl rfl
  unfold wpOpIn at *
  simp only [hj] at *
  rw [wanted_put oj a oi.dst v h1] at h
  split
  · rename_i hw
    simp only [hw, if_true] at h
    refine ⟨fun _ _ => trivial, ?_⟩
    have h := h.2
    rw [semAt_put oj hsj a oi.dst v h1] at h
    generalize (oj.semAt (fw D.r).round a.eval).run P w = r at *
    cases r with
    | ok n w' =>
      cases n <;> simp only [Oper.uponIn] at h ⊢
      case value u => exact ⟨keep a hy u, by rw [← Act.put_comm a v u h2]; exact h⟩
      case skip => exact ⟨keep a hy _, by rw [← Act.put_comm a v undef h2]; exact h⟩
      case defer d =>
        refine ⟨keep _ (keepD d) _, ?_⟩
        rw [← Act.put_comm _ v undef h2, ← Act.put_defers]
        exact h
      case enter f args =>
        refine ⟨h.1, CallsIn.mono h.2 fun e w'' he => ?_⟩
        cases e with
        | returned u => exact ⟨keep a hy u, by rw [← Act.put_comm a v u h2]; exact he⟩
        | panicked c => exact ⟨he.1.unput hkt, he.2⟩
        | outgrown => obtain ⟨_, _, he⟩ := he; exact he.elim
      case row row args => exact ⟨h.1, RowsIn.mono h.2 fun u w'' he => ⟨keep a hy u, by rw [← Act.put_comm a v u h2]; exact he⟩⟩
      case round l f tmps assign body =>
        refine ⟨h.1, RoundIn.mono h.2 fun e w'' he => ?_⟩
        cases e with
        | returned u => exact ⟨keep a hy u, by rw [← Act.put_comm a v u h2]; exact he⟩
        | panicked c => exact ⟨he.1.unput hkt, he.2⟩
        | outgrown => obtain ⟨_, _, he⟩ := he; exact he.elim
    | halt x w' =>
      cases x <;> simp only [Oper.uponIn] at h ⊢
      case panic u => exact ⟨h.1.unput hkt, h.2⟩
  · rename_i hw
    simp only [hw] at h
    exact ⟨fun _ _ => trivial, keep a hy _, by rw [← Act.put_comm a v undef h2]; exact h.2⟩

theorem anyL_first {i : Nat} {oi : Oper} {v : Value} (hkt : keepsT ops Tq = true) (hi : ops[i]? = some oi) (hsel : ∀ (j : Nat) (o : Oper) cs b, ops[j]? = some o → o.op ≠ .select cs b) :
    ∀ (f : Nat) (listed : Array Bool) (a : Act) (L : HL),
      (∀ j oj, ops[j]? = some oj → j ≠ i → listed.getD j true = false → (∀ e ∈ oj.after, Region.binds .any e = true → e.on ≠ i) → oi.apart ops oj = true) →
      i ∈ Region.ready .any ops listed → SubL Lq L → YieldsQ P w0 M ops Lq oi v a →
      AnyL P w0 M N D Tq PQ ops Lq Q f (listed.setIfInBounds i true) (a.put oi.dst v) L → AnyL P w0 M N D Tq PQ ops Lq Q (f + 1) listed a L := by
  intro f
  induction f with
  | zero =>
    intro listed a L _ hr hs hy H
    refine ⟨fun h => (by rw [h] at hr; cases hr), fun j hj w hw => ?_⟩
    by_cases hji : j = i
    · subst hji; exact hy.wpOp hi (hw.weaken hs) (fun w' hb => ⟨L, hw.grow hb, hs, H⟩)
    · have := ready_mono hj hji
      rw [H.1] at this
      cases this
  | succ f ih =>
    intro listed a L hfree hr hs hy H
    refine ⟨fun h => (by rw [h] at hr; cases hr), fun j hj w hw => ?_⟩
    by_cases hji : j = i
    · subst hji; exact hy.wpOp hi (hw.weaken hs) (fun w' hb => ⟨L, hw.grow hb, hs, H⟩)
    · have h1 := H.2 j (ready_mono hj hji) w hw
      obtain ⟨hjun, oj, hoj, hall⟩ := mem_ready.1 hj
      have hnot : ∀ e ∈ oj.after, Region.binds .any e = true → e.on ≠ i := fun e he hb heq => by
        have h1 := hall e he hb
        have h0 := (mem_ready.1 hr).1
        rw [heq] at h1
        rcases Nat.lt_or_ge i listed.size with h' | h'
        · simp [h'] at h0 h1; rw [h0] at h1; cases h1
        · simp [Array.getElem?_eq_none h'] at h1
      have h2 := wpOp_putQ (keepsT_spec hkt hi) hoj (hfree j oj hoj hji hjun hnot) (fun cs b => hsel i oi cs b hi) (fun cs b => hsel j oj cs b hoj) hy h1
      have hfree' : ∀ k ok, ops[k]? = some ok → k ≠ i → (listed.setIfInBounds j true).getD k true = false →
          (∀ e ∈ ok.after, Region.binds .any e = true → e.on ≠ i) → oi.apart ops ok = true := fun k ok hk hki hun hno => by
        refine hfree k ok hk hki ?_ hno
        by_cases hjk : j = k
        · subst hjk; exact hjun
        · rw [getD_set_ne true hjk] at hun; exact hun
      refine wpOpIn_mono (fun a' w' ⟨hy', L', h3, h4, h5⟩ => ⟨L', h3, h4, ih (listed.setIfInBounds j true) a' L' hfree' (ready_mono hr (Ne.symm hji)) h4 hy' ?_⟩) h2
      rw [Array.setIfInBounds_comm _ _ hji]
      exact h5

/-! ### The walk -/

/-- The operations of these numbers only read: each yields its value. -/
def QIdx (P : Program) (w0 : World) (M : List Nat) (N : Nat) (D : Dfr) (ops : Array Oper) (Lq : HL) : List Nat → TL → (TL → Prop) → Prop
  | [], T, K => K T
  | i :: r, T, K => ∃ o d, ops[i]? = some o ∧ o.dst = some d ∧ d < N ∧ match o.guard with
    | none => ∃ v, Quiet P w0 M N D o T Lq v ∧ QIdx P w0 M N D ops Lq r ((d, v) :: T) K
    | some (j, want) => ∃ e b, (ops[j]?).bind (·.dst) = some e ∧ look T e = some (.bool b) ∧
        if b = want then ∃ v, Quiet P w0 M N D o T Lq v ∧ QIdx P w0 M N D ops Lq r ((d, v) :: T) K
        else QIdx P w0 M N D ops Lq r ((d, undef) :: T) K

def lexIdx (ops : Array Oper) : List Nat → Array Bool → Bool
  | [], _ => true
  | i :: r, listed => (Region.ready .any ops listed).contains i && Region.free .any ops listed i && lexIdx ops r (listed.setIfInBounds i true)

def listedBy : List Nat → Array Bool → Array Bool
  | [], listed => listed
  | i :: r, listed => listedBy r (listed.setIfInBounds i true)

theorem anyL_of_qidx (hkt : keepsT ops Tq = true) (hs : Region.noSelect ops = true) {L : HL} (hL : SubL Lq L) : ∀ (is : List Nat) (f : Nat) (listed : Array Bool) (T : TL) (K : TL → Prop),
    lexIdx ops is listed = true → QIdx P w0 M N D ops Lq is T K → (∀ T', K T' → ∀ a, Fr N D a T' → AnyL P w0 M N D Tq PQ ops Lq Q f (listedBy is listed) a L) →
    ∀ a, Fr N D a T → AnyL P w0 M N D Tq PQ ops Lq Q (f + is.length) listed a L
  | [], f, listed, T, K, _, h, hk, a, ha => hk T h a ha
  | i :: r, f, listed, T, K, hB, h, hk, a, ha => by
    simp only [lexIdx, Bool.and_eq_true] at hB
    obtain ⟨⟨hr, hf⟩, hB'⟩ := hB
    simp only [QIdx] at h
    obtain ⟨o, d, ho, hd, hN, h⟩ := h
    have ih := anyL_of_qidx hkt hs hL r f (listed.setIfInBounds i true)
    have go : ∀ v, YieldsQ P w0 M ops Lq o v a → QIdx P w0 M N D ops Lq r ((d, v) :: T) K → AnyL P w0 M N D Tq PQ ops Lq Q (f + (i :: r).length) listed a L := fun v hy hq => by
      refine anyL_first hkt ho (Region.noSelect_spec hs) (f + r.length) listed a L (Region.free_spec ho hf) (by simpa using hr) hL hy ?_
      exact ih ((d, v) :: T) K hB' hq hk _ (by rw [hd]; exact ha.put hN v)
    have quiet : ∀ v, Quiet P w0 M N D o T Lq v → ∀ w, St w0 M w Lq → Oper.quietAt P o a (fun w' => Below w.heap.size w w') w v := fun v hv w hw => by
      have := hv a w ha hw
      unfold Oper.quietAt at *
      generalize (execOp a.eval o).run P w = r at *
      cases r with
      | ok n w' =>
        cases n <;> simp only [Oper.quietUpon] at this ⊢
        case enter f args => exact ⟨this.1, this.2.mono fun e w'' ⟨he, _, hb⟩ => ⟨he, hb⟩⟩
        all_goals exact this
      | halt x w' => simp only [Oper.quietUpon] at this
    split at h
    · rename_i hg
      obtain ⟨v, hv, hq⟩ := h
      exact go v (.inl ⟨wanted_none hg _, quiet v hv⟩) hq
    · rename_i j want hg
      obtain ⟨e, b, he, hb, h⟩ := h
      split at h
      · rename_i hbw
        obtain ⟨v, hv, hq⟩ := h
        exact go v (.inl ⟨by rw [wanted_some ha hg he hb]; simpa using hbw, quiet v hv⟩) hq
      · rename_i hbw
        exact go undef (.inr ⟨by rw [wanted_some ha hg he hb]; simpa using hbw, rfl⟩) h

def AllR : List Nat → (Nat → Prop) → Prop
  | [], _ => True
  | i :: r, φ => φ i ∧ AllR r φ
theorem AllR.mem {φ : Nat → Prop} : ∀ {l : List Nat}, AllR l φ → ∀ i ∈ l, φ i
  | i :: r, h, j, hj => by
    rcases List.mem_cons.1 hj with rfl | hj
    · exact h.1
    · exact AllR.mem h.2 j hj

/-- What is left, in whatever order. -/
def Tail (P : Program) (w0 : World) (M : List Nat) (N : Nat) (D : Dfr) (Tq : TL) (PQ : List PanicEntry → World → Prop) (ops : Array Oper) (Lq : HL) : Nat → Array Bool → TL → HL → (TL → HL → Prop) → Prop
  | 0, listed, T, L, K => Region.ready .any ops listed = [] ∧ K T L
  | f + 1, listed, T, L, K => (∃ rs, Region.ready .any ops listed = rs ∧ rs ≠ [] ∧ AllR rs fun i => ∃ o, ops[i]? = some o ∧ (o.guard = none ∨ ∃ j want e, o.guard = some (j, want) ∧ (ops[j]?).bind (·.dst) = some e ∧ look T e = some (.bool want)) ∧
      Step P w0 M N D o T L (fun T' L' => SubL Lq L' ∧ Tail P w0 M N D Tq PQ ops Lq f (listed.setIfInBounds i true) T' L' K) (Px N D Tq PQ)) ∨
    (∃ i, lexIdx ops [i] listed = true ∧ Region.noSelect ops = true ∧ QIdx P w0 M N D ops Lq [i] T fun T' => Tail P w0 M N D Tq PQ ops Lq f (listed.setIfInBounds i true) T' L K)

theorem anyL_of_tail {K : TL → HL → Prop} (hkt : keepsT ops Tq = true) (hK : ∀ T L, K T L → At w0 M N D Q .normal T L) : ∀ (f : Nat) (listed : Array Bool) (T : TL) (L : HL), SubL Lq L → Tail P w0 M N D Tq PQ ops Lq f listed T L K →
    ∀ a, Fr N D a T → AnyL P w0 M N D Tq PQ ops Lq Q f listed a L
  | 0, _, T, L, _, h, a, ha => ⟨h.1, fun w hw => hK T L h.2 a w ha hw⟩
  | f + 1, listed, T, L, hL, h, a, ha => by
    rcases h with ⟨rs, hr, hne, hall⟩ | ⟨i, hB, hs, hq⟩
    · refine ⟨fun h0 => absurd (hr.symm.trans h0) hne, fun i hi w hw => ?_⟩
      obtain ⟨o, ho, hg, hst⟩ := hall.mem i (hr ▸ hi)
      unfold wpOpIn
      have hwt : Region.wanted o (yielded ops a.tmps) = true := by
        rcases hg with hg | ⟨j, want, e, hg, he, hb⟩
        · exact wanted_none hg _
        · rw [wanted_some ha hg he hb]; simp
      simp only [ho, hwt, if_true]
      exact Oper.wpIn_mono (fun a' w' ⟨T', L', h1, h2, h3, h4⟩ => ⟨L', h2, h3, anyL_of_tail hkt hK f _ T' L' h3 h4 a' h1⟩) (hst a w ha hw)
    · exact anyL_of_qidx hkt hs hL [i] f listed T _ hB hq (fun T' h a ha => anyL_of_tail hkt hK f _ T' L hL h a ha) a ha

variable {T : TL} {L : HL}

/-- A region that may panic: PQ is what is told of memory then, Tq of the frame. -/
theorem cw_drawP {id : Nat} {l : List Oper} (hm : P.follows .mixedOrders = true) (Tq : TL) (PQ : List PanicEntry → World → Prop) (hP : ∀ c a w, Fr N D a Tq → PQ c w → Q (.panic c) a w) (is : List Nat) (f : Nat) (Lq : HL)
    (hB : (Region.noSelect l.toArray && lexIdx l.toArray is (Array.replicate l.length false) && Nat.beq (f + is.length) l.length) = true) (hk : keepsT l.toArray Tq = true) (hL : SubL Lq L)
    (h : QIdx P w0 M N D l.toArray Lq is T fun T' => Tail P w0 M N D Tq PQ l.toArray Lq f (listedBy is (Array.replicate l.length false)) T' L (fun T' L' => At w0 M N D Q .normal T' L')) :
    CW P w0 M N D (.region id l.toArray true) T L Q := by
  intro a w ha hw
  simp only [Bool.and_eq_true] at hB
  have hsz : f + is.length = l.toArray.size := by simpa using Nat.eq_of_beq_eq_true hB.2
  refine wpIn_region_any hm (wpAny_of_anyL (w0 := w0) (M := M) (Lq := Lq) hP _ _ _ L ?_ _ (hw.drawn _))
  rw [← hsz]
  refine anyL_of_qidx hk hB.1.1 hL is f _ T _ ?_ h (fun T' h a ha => ?_) a ha
  · rw [hsz, List.size_toArray]; exact hB.1.2
  · rw [hsz, List.size_toArray]
    exact anyL_of_tail hk (fun _ _ h => h) _ _ _ _ hL h a ha

def NoP : List PanicEntry → World → Prop := fun _ _ => False
theorem keepsT_nil (ops : Array Oper) : keepsT ops [] = true := by
  simp only [keepsT, List.all_eq_true]
  intro o _
  cases o.dst <;> rfl

theorem cw_draw {id : Nat} {l : List Oper} (hm : P.follows .mixedOrders = true) (is : List Nat) (f : Nat) (Lq : HL)
    (hB : (Region.noSelect l.toArray && lexIdx l.toArray is (Array.replicate l.length false) && Nat.beq (f + is.length) l.length) = true) (hL : SubL Lq L)
    (h : QIdx P w0 M N D l.toArray Lq is T fun T' => Tail P w0 M N D [] NoP l.toArray Lq f (listedBy is (Array.replicate l.length false)) T' L (fun T' L' => At w0 M N D Q .normal T' L')) :
    CW P w0 M N D (.region id l.toArray true) T L Q := cw_drawP hm [] NoP (fun _ _ _ _ h => h.elim) is f Lq hB (keepsT_nil _) hL h

/-- A region that draws, and what stands behind it. -/
theorem cw_sd {id : Nat} {l : List Oper} {y : Code} (hm : P.follows .mixedOrders = true) (is : List Nat) (f : Nat) (Lq : HL)
    (hB : (Region.noSelect l.toArray && lexIdx l.toArray is (Array.replicate l.length false) && Nat.beq (f + is.length) l.length) = true) (hL : SubL Lq L)
    (h : QIdx P w0 M N D l.toArray Lq is T fun T' => Tail P w0 M N D [] NoP l.toArray Lq f (listedBy is (Array.replicate l.length false)) T' L (fun T' L' => CW P w0 M N D y T' L' Q)) :
    CW P w0 M N D (.seq (.region id l.toArray true) y) T L Q :=
  cw_seq (cw_draw hm is f Lq hB hL h)
theorem cw_sdP {id : Nat} {l : List Oper} {y : Code} (hm : P.follows .mixedOrders = true) (Tq : TL) (PQ : List PanicEntry → World → Prop) (hP : ∀ c a w, Fr N D a Tq → PQ c w → Q (.panic c) a w) (is : List Nat) (f : Nat) (Lq : HL)
    (hB : (Region.noSelect l.toArray && lexIdx l.toArray is (Array.replicate l.length false) && Nat.beq (f + is.length) l.length) = true) (hk : keepsT l.toArray Tq = true) (hL : SubL Lq L)
    (h : QIdx P w0 M N D l.toArray Lq is T fun T' => Tail P w0 M N D Tq PQ l.toArray Lq f (listedBy is (Array.replicate l.length false)) T' L (fun T' L' => CW P w0 M N D y T' L' Q)) :
    CW P w0 M N D (.seq (.region id l.toArray true) y) T L Q :=
  cw_seq (cw_drawP hm Tq PQ hP is f Lq hB hk hL h)
end
end Go.NP

/-
  OneT law for each kind of operation.
-/
namespace Go.NP
open Go Go.RowKit

section
variable {P : Program} {w0 : World} {M : List Nat} {N : Nat} {D : Dfr} {T : TL} {L : HL}

/-! ## Types -/
def aggB : TypeDesc → Bool
  | .struct _ | .array _ _ => true
  | _ => false
def OneT (P : Program) (t : TypeId) : Prop := (P.underlying t).map aggB = some false
def Agg (P : Program) (t : TypeId) (s : Nat) : Prop := (P.underlying t).map aggB = some true ∧ (P.info? t).map (·.size) = some s
def Siz (P : Program) (t : TypeId) (s : Nat) : Prop := (P.info? t).map (·.size) = some s
def Zer (P : Program) (t : TypeId) (v : Value) : Prop := (P.info? t).bind (·.zero) = some v
/-- A field's place behind an address. -/
def Fld (P : Program) (t : TypeId) (f off : Nat) : Prop := ∃ fs fd, P.underlying t = some (.struct fs) ∧ fs[f]? = some fd ∧ fd.offset = off ∧ ∃ s, (P.info? fd.type).map (·.size) = some (s + 1)
/-- A slice type: its elements, their cells and bytes. -/
def Slc (P : Program) (t e : TypeId) (s : Nat) : Prop := P.underlying t = some (.slice e) ∧ (P.info? e).map (·.size) = some s
def Arr (P : Program) (t e : TypeId) (n s : Nat) : Prop := P.underlying t = some (.array n e) ∧ (P.info? e).map (·.size) = some s

theorem run_isAgg_one {t : TypeId} (h : OneT P t) (w : World) : (isAgg t).run P w = .ok false w := by
  unfold OneT at h
  cases hu : P.underlying t with
  | none => simp [hu] at h
  | some d =>
    simp only [hu, Option.map_some, Option.some.injEq] at h
    unfold isAgg
    rw [Sem.run_bind, run_underlying hu w]
    cases d <;> simp_all [aggB]
theorem run_isAgg_agg {t : TypeId} {s : Nat} (h : Agg P t s) (w : World) : (isAgg t).run P w = .ok true w := by
  obtain ⟨h, _⟩ := h
  cases hu : P.underlying t with
  | none => simp [hu] at h
  | some d =>
    simp only [hu, Option.map_some, Option.some.injEq] at h
    unfold isAgg
    rw [Sem.run_bind, run_underlying hu w]
    cases d <;> simp_all [aggB]
theorem run_sizeOf {t : TypeId} {s : Nat} (h : Siz P t s) (w : World) : (sizeOf t).run P w = .ok s w := by
  unfold Siz at h
  cases hi : P.info? t with
  | none => simp [hi] at h
  | some i => simp only [hi, Option.map_some, Option.some.injEq] at h; simp [sizeOf, typeInfo, hi, h]
theorem run_zeroValue {t : TypeId} {v : Value} (h : Zer P t v) (w : World) : (zeroValue t).run P w = .ok v w := by
  unfold Zer at h
  cases hi : P.info? t with
  | none => simp [hi] at h
  | some i => simp only [hi, Option.bind_some] at h; simp [zeroValue, typeInfo, hi, h]

/-! ## Reading alone -/

theorem q_run {o : Oper} {v : Value} (h : ∀ a w, Fr N D a T → St w0 M w L → (execOp a.eval o).run P w = .ok (.value v) w) : Quiet P w0 M N D o T L v := by
  intro a w ha hw
  unfold Oper.quietAt
  rw [h a w ha hw]
  exact ⟨rfl, rfl⟩

theorem q_move {d : Option Tmp} {x : Operand} {v : Value} {t : TypeId} {p : String} {af : Array Edge} {g : Option (Nat × Bool)} (hx : ev T x = some v) : Quiet P w0 M N D { dst := d, op := .move x, type := t, pos := p, after := af, guard := g } T L v :=
  q_run fun a w ha _ => by simp [execOp, ha.ev hx]
theorem q_assign {d : Option Tmp} {x : Operand} {v : Value} {t : TypeId} {p : String} {af : Array Edge} {g : Option (Nat × Bool)} (hx : ev T x = some v) : Quiet P w0 M N D { dst := d, op := .assign x, type := t, pos := p, after := af, guard := g } T L v :=
  q_run fun a w ha _ => by simp [execOp, ha.ev hx]
theorem q_pick {d : Option Tmp} {c x y : Operand} {b : Bool} {u v r : Value} {t : TypeId} {p : String} {af : Array Edge} {g : Option (Nat × Bool)} (hc : ev T c = some (.bool b)) (hx : ev T x = some u) (hy : ev T y = some v) (hr : (if b then u else v) = r) :
    Quiet P w0 M N D { dst := d, op := .pick c x y, type := t, pos := p, after := af, guard := g } T L r :=
  q_run fun a w ha _ => by subst hr; simp [execOp, ha.ev hc, ha.ev hx, ha.ev hy, asBool]
theorem q_pick_t {d : Option Tmp} {c x y : Operand} {u : Value} {t : TypeId} {p : String} {af : Array Edge} {g : Option (Nat × Bool)} (hc : ev T c = some (.bool true)) (hx : ev T x = some u) :
    Quiet P w0 M N D { dst := d, op := .pick c x y, type := t, pos := p, after := af, guard := g } T L u :=
  q_run fun a w ha _ => by simp [execOp, ha.ev hc, ha.ev hx, asBool]
theorem q_pick_f {d : Option Tmp} {c x y : Operand} {v : Value} {t : TypeId} {p : String} {af : Array Edge} {g : Option (Nat × Bool)} (hc : ev T c = some (.bool false)) (hy : ev T y = some v) :
    Quiet P w0 M N D { dst := d, op := .pick c x y, type := t, pos := p, after := af, guard := g } T L v :=
  q_run fun a w ha _ => by simp [execOp, ha.ev hc, ha.ev hy, asBool]

/-! ### Whole numbers -/
def shI (k : IntKind) (a b : Int) : Int := k.wrap (a * 2 ^ (min b.toNat k.bits))
def binI : BinOp → IntKind → Int → IntKind → Int → Option Value
  | .add, k, a, k', b => if k = k' then some (.int k (k.wrap (a + b))) else none
  | .sub, k, a, k', b => if k = k' then some (.int k (k.wrap (a - b))) else none
  | .mul, k, a, k', b => if k = k' then some (.int k (k.wrap (a * b))) else none
  | .quo, k, a, k', b => if k = k' ∧ b ≠ 0 then some (.int k (k.wrap (a.tdiv b))) else none
  | .rem, k, a, k', b => if k = k' ∧ b ≠ 0 then some (.int k (a.tmod b)) else none
  | .and, k, a, k', b => if k = k' then some (.int k (k.wrap (BitVec.ofInt k.bits a &&& BitVec.ofInt k.bits b).toNat)) else none
  | .or, k, a, k', b => if k = k' then some (.int k (k.wrap (BitVec.ofInt k.bits a ||| BitVec.ofInt k.bits b).toNat)) else none
  | .xor, k, a, k', b => if k = k' then some (.int k (k.wrap (BitVec.ofInt k.bits a ^^^ BitVec.ofInt k.bits b).toNat)) else none
  | .andNot, k, a, k', b => if k = k' then some (.int k (k.wrap (BitVec.ofInt k.bits a &&& ~~~BitVec.ofInt k.bits b).toNat)) else none
  | .shl, k, a, _, b => if 0 ≤ b then some (.int k (shI k a b)) else none
  | .shr, k, a, _, b => if 0 ≤ b then some (.int k (a.fdiv (2 ^ (min b.toNat k.bits)))) else none
  | .eql, k, a, k', b => if k = k' then some (.bool (a == b)) else none
  | .neq, k, a, k', b => if k = k' then some (.bool (a != b)) else none
  | .lss, k, a, k', b => if k = k' then some (.bool (decide (a < b))) else none
  | .leq, k, a, k', b => if k = k' then some (.bool (decide (a ≤ b))) else none
  | .gtr, k, a, k', b => if k = k' then some (.bool (decide (a > b))) else none
  | .geq, k, a, k', b => if k = k' then some (.bool (decide (a ≥ b))) else none

theorem run_binOp_int {op : BinOp} {t : TypeId} {k k' : IntKind} {a b : Int} {v : Value} (h : binI op k a k' b = some v) (w : World) : (binOp op t (.int k a) (.int k' b)).run P w = .ok v w := by
  cases op <;> simp only [binI] at h <;> split at h <;> rename_i hc <;> cases h
  all_goals first
    | (subst hc; simp [binOp, Op.intArith, Op.intBits, Op.intCmp])
    | (obtain ⟨rfl, hb⟩ := hc; simp [binOp, Op.intDiv, hb])
    | (have hb : ¬ b < 0 := by omega
       simp [binOp, Op.shift, hb, shI])

theorem run_eqGuard_int {op : BinOp} {t : TypeId} {x y : Operand} {k k' : IntKind} {a b : Int} (w : World) : (eqGuard op t x y (.int k a) (.int k' b)).run P w = .ok () w := by
  cases op <;> simp [eqGuard]
theorem run_eqGuard_bool {op : BinOp} {t : TypeId} {x y : Operand} {a b : Bool} (w : World) : (eqGuard op t x y (.bool a) (.bool b)).run P w = .ok () w := by
  cases op <;> simp [eqGuard]

theorem q_bin {d : Option Tmp} {op : BinOp} {x y : Operand} {k k' : IntKind} {m n : Int} {v : Value} {t t' t'' : TypeId} {p : String} {af : Array Edge} {g : Option (Nat × Bool)}
    (hx : ev T x = some (.int k m)) (hy : ev T y = some (.int k' n)) (h : binI op k m k' n = some v) :
    Quiet P w0 M N D { dst := d, op := .binOp op t x y t', type := t'', pos := p, after := af, guard := g } T L v :=
  q_run fun a w ha _ => by simp [execOp, ha.ev hx, ha.ev hy, run_eqGuard_int, run_binOp_int h]

def BoolT (P : Program) (t : TypeId) : Prop := P.underlying t = some .bool
theorem run_equalIn_bool {t : TypeId} (ht : BoolT P t) (n : Nat) (a b : Bool) (w : World) : (Op.equalIn (n + 1) t (.bool a) (.bool b)).run P w = .ok (a == b) w := by
  simp [Op.equalIn, run_underlying ht]
theorem run_equal_bool {t : TypeId} (ht : BoolT P t) (a b : Bool) (w : World) : (Op.equal t (.bool a) (.bool b)).run P w = .ok (a == b) w := run_equalIn_bool ht 9999 a b w
theorem run_beql {t : TypeId} (ht : BoolT P t) (a b : Bool) (w : World) : (binOp .eql t (.bool a) (.bool b)).run P w = .ok (.bool (a == b)) w := by
  show (do pure (.bool (← Op.equal t (.bool a) (.bool b))) : Sem Value).run P w = _
  rw [Sem.run_bind, run_equal_bool ht]; rfl
theorem run_bneq {t : TypeId} (ht : BoolT P t) (a b : Bool) (w : World) : (binOp .neq t (.bool a) (.bool b)).run P w = .ok (.bool (a != b)) w := by
  show (do pure (.bool (!(← Op.equal t (.bool a) (.bool b)))) : Sem Value).run P w = _
  rw [Sem.run_bind, run_equal_bool ht]; rfl
theorem q_beql {d : Option Tmp} {x y : Operand} {m n r : Bool} {t t' t'' : TypeId} {p : String} {af : Array Edge} {g : Option (Nat × Bool)} (ht : BoolT P t)
    (hx : ev T x = some (.bool m)) (hy : ev T y = some (.bool n)) (hr : (m == n) = r) :
    Quiet P w0 M N D { dst := d, op := .binOp .eql t x y t', type := t'', pos := p, after := af, guard := g } T L (.bool r) :=
  q_run fun a w ha _ => by subst hr; simp only [execOp, ha.ev hx, ha.ev hy, Sem.run_bind, run_eqGuard_bool, run_beql ht, Result.andThen_ok, Sem.run_pure]
theorem q_bneq {d : Option Tmp} {x y : Operand} {m n r : Bool} {t t' t'' : TypeId} {p : String} {af : Array Edge} {g : Option (Nat × Bool)} (ht : BoolT P t)
    (hx : ev T x = some (.bool m)) (hy : ev T y = some (.bool n)) (hr : (m != n) = r) :
    Quiet P w0 M N D { dst := d, op := .binOp .neq t x y t', type := t'', pos := p, after := af, guard := g } T L (.bool r) :=
  q_run fun a w ha _ => by subst hr; simp only [execOp, ha.ev hx, ha.ev hy, Sem.run_bind, run_eqGuard_bool, run_bneq ht, Result.andThen_ok, Sem.run_pure]
/-- '==' and '!=' on structs and arrays, by a law of their own. -/
def EqlT (P : Program) (t : TypeId) (u v : Value) (b : Bool) : Prop := ∀ (op : BinOp) (x y : Operand) (w : World), (eqGuard op t x y u v).run P w = .ok () w ∧ (Op.equal t u v).run P w = .ok b w
theorem run_binOp_eql {t : TypeId} {xs ys : Array Value} : binOp .eql t (.agg xs) (.agg ys) = (do pure (.bool (← Op.equal t (.agg xs) (.agg ys)))) := rfl
theorem run_binOp_neq {t : TypeId} {xs ys : Array Value} : binOp .neq t (.agg xs) (.agg ys) = (do pure (.bool (!(← Op.equal t (.agg xs) (.agg ys))))) := rfl
theorem q_aeql {d : Option Tmp} {x y : Operand} {u v : Array Value} {b : Bool} {t t' t'' : TypeId} {p : String} {af : Array Edge} {g : Option (Nat × Bool)}
    (hx : ev T x = some (.agg u)) (hy : ev T y = some (.agg v)) (h : EqlT P t (.agg u) (.agg v) b) :
    Quiet P w0 M N D { dst := d, op := .binOp .eql t x y t', type := t'', pos := p, after := af, guard := g } T L (.bool b) :=
  q_run fun a w ha _ => by simp only [execOp, ha.ev hx, ha.ev hy, Sem.run_bind, run_binOp_eql, (h .eql x y w).1, (h .eql x y w).2, Result.andThen_ok, Sem.run_pure]
theorem q_aneq {d : Option Tmp} {x y : Operand} {u v : Array Value} {b r : Bool} {t t' t'' : TypeId} {p : String} {af : Array Edge} {g : Option (Nat × Bool)}
    (hx : ev T x = some (.agg u)) (hy : ev T y = some (.agg v)) (h : EqlT P t (.agg u) (.agg v) b) (hr : (!b) = r) :
    Quiet P w0 M N D { dst := d, op := .binOp .neq t x y t', type := t'', pos := p, after := af, guard := g } T L (.bool r) :=
  q_run fun a w ha _ => by subst hr; simp only [execOp, ha.ev hx, ha.ev hy, Sem.run_bind, run_binOp_neq, (h .neq x y w).1, (h .neq x y w).2, Result.andThen_ok, Sem.run_pure]

theorem q_not {d : Option Tmp} {x : Operand} {b r : Bool} {t t' : TypeId} {p : String} {af : Array Edge} {g : Option (Nat × Bool)} (hx : ev T x = some (.bool b)) (hr : (!b) = r) :
    Quiet P w0 M N D { dst := d, op := .unOp .not t x, type := t', pos := p, after := af, guard := g } T L (.bool r) :=
  q_run fun a w ha _ => by subst hr; simp [execOp, ha.ev hx, Op.unary]
theorem q_neg {d : Option Tmp} {x : Operand} {k : IntKind} {n : Int} {v : Value} {t t' : TypeId} {p : String} {af : Array Edge} {g : Option (Nat × Bool)} (hx : ev T x = some (.int k n)) (h : binI .sub k 0 k n = some v) :
    Quiet P w0 M N D { dst := d, op := .unOp .neg t x, type := t', pos := p, after := af, guard := g } T L v :=
  q_run fun a w ha _ => by
    simp only [binI, if_true, Option.some.injEq] at h
    simp [execOp, ha.ev hx, Op.unary, Op.intArith, ← h]
theorem q_com {d : Option Tmp} {x : Operand} {k : IntKind} {n : Int} {v : Value} {t t' : TypeId} {p : String} {af : Array Edge} {g : Option (Nat × Bool)} (hx : ev T x = some (.int k n)) (h : binI .xor k (if k.signed then -1 else k.max) k n = some v) :
    Quiet P w0 M N D { dst := d, op := .unOp .xor t x, type := t', pos := p, after := af, guard := g } T L v :=
  q_run fun a w ha _ => by
    simp only [binI, if_true, Option.some.injEq] at h
    simp only [execOp, ha.ev hx, Op.unary, Op.intBits, ← h]
    simp

def ConvI (P : Program) (s t : TypeId) (k : IntKind) : Prop := ∃ j, P.underlying s = some (.int j) ∧ P.underlying t = some (.int k)
theorem q_conv {d : Option Tmp} {x : Operand} {j k : IntKind} {n : Int} {s t t' : TypeId} {p : String} {af : Array Edge} {g : Option (Nat × Bool)} {v : Value} (hc : ConvI P s t k) (hx : ev T x = some (.int j n)) (hv : Value.int k (k.wrap n) = v) :
    Quiet P w0 M N D { dst := d, op := .convert s t x, type := t', pos := p, after := af, guard := g } T L v :=
  q_run fun a w ha _ => by
    obtain ⟨j', h1, h2⟩ := hc
    simp [execOp, ha.ev hx, convert, run_underlying h1, run_underlying h2, Conv.intToInt, hv]

/-! ### Addresses -/
theorem Addr.add_none (b off n : Nat) : (⟨b, off, none⟩ : Addr).add n = ⟨b, off + n, none⟩ := by
  unfold Addr.add
  split <;> simp_all

theorem q_field {d : Option Tmp} {x : Operand} {b off k n : Nat} {t t' : TypeId} {p : String} {af : Array Edge} {g : Option (Nat × Bool)} (hf : Fld P t k n) (hx : ev T x = some (.pointer (some ⟨b, off, none⟩))) :
    Quiet P w0 M N D { dst := d, op := .fieldAddr t x k, type := t', pos := p, after := af, guard := g } T L (.pointer (some ⟨b, off + n, none⟩)) :=
  q_run fun a w ha _ => by
    obtain ⟨fs, fd, h1, h2, h3, s, h4⟩ := hf
    have hs : Siz P fd.type (s + 1) := h4
    simp [execOp, ha.ev hx, Instr.fieldAt, run_underlying h1, h2, Instr.sureAddr, fieldPlace, run_sizeOf hs, Addr.add_none, h3]

theorem q_indexArr {d : Option Tmp} {x y : Operand} {b off n s : Nat} {k : IntKind} {i : Int} {t e t' : TypeId} {p : String} {af : Array Edge} {g : Option (Nat × Bool)} (hA : Arr P t e n s)
    (hx : ev T x = some (.pointer (some ⟨b, off, none⟩))) (hy : ev T y = some (.int k i)) (h0 : 0 ≤ i) (h1 : i < n) :
    Quiet P w0 M N D { dst := d, op := .indexAddr t x y, type := t', pos := p, after := af, guard := g } T L (.pointer (some ⟨b, off + i.toNat * s, none⟩)) :=
  q_run fun a w ha _ => by
    have hs : Siz P e s := hA.2
    simp [execOp, ha.ev hx, ha.ev hy, Instr.indexAt, asIntOf, run_underlying hA.1, Instr.sureAddr, h0, h1, run_sizeOf hs, Addr.add_none]
theorem q_indexSl {d : Option Tmp} {x y : Operand} {b off n c s : Nat} {k : IntKind} {i : Int} {t e t' : TypeId} {p : String} {af : Array Edge} {g : Option (Nat × Bool)} (hA : Slc P t e s)
    (hx : ev T x = some (.slice (some ⟨b, off, none⟩) n c)) (hy : ev T y = some (.int k i)) (h0 : 0 ≤ i) (h1 : i < n) :
    Quiet P w0 M N D { dst := d, op := .indexAddr t x y, type := t', pos := p, after := af, guard := g } T L (.pointer (some ⟨b, off + i.toNat * s, none⟩)) :=
  q_run fun a w ha _ => by
    have hs : Siz P e s := hA.2
    simp [execOp, ha.ev hx, ha.ev hy, Instr.indexAt, asIntOf, run_underlying hA.1, h0, h1, run_sizeOf hs, Addr.add_none]
/-- An element of an array that is a value. -/
theorem q_indexV1 {d : Option Tmp} {x y : Operand} {cs : Array Value} {n : Nat} {k : IntKind} {i : Int} {v : Value} {t e t' : TypeId} {p : String} {af : Array Edge} {g : Option (Nat × Bool)} (hA : Arr P t e n 1) (hO : OneT P e)
    (hx : ev T x = some (.agg cs)) (hy : ev T y = some (.int k i)) (h0 : 0 ≤ i) (h1 : i < n) (hv : cs[i.toNat]? = some v) :
    Quiet P w0 M N D { dst := d, op := .index t x y, type := t', pos := p, after := af, guard := g } T L v :=
  q_run fun a w ha _ => by
    have hs : Siz P e 1 := hA.2
    simp [execOp, ha.ev hx, ha.ev hy, Instr.index, asIntOf, run_underlying hA.1, h0, h1, run_sizeOf hs, part, run_isAgg_one hO, hv]

/-! ### Parts of values -/
def Part (l : List Value) (off s : Nat) (vs : List Value) : Prop := (l.drop off).take s = vs ∧ vs.length = s
theorem Part.whole {l : List Value} {s : Nat} (h : l.length = s) : Part l 0 s l := by subst h; simp [Part]

theorem q_fieldV {d : Option Tmp} {x : Operand} {l vs : List Value} {k n s : Nat} {t t' : TypeId} {fs : Array Field} {fd : Field} {p : String} {af : Array Edge} {g : Option (Nat × Bool)} (h1 : P.underlying t = some (.struct fs)) (h2 : fs[k]? = some fd) (h3 : fd.offset = n) (hA : Agg P fd.type s)
    (hx : ev T x = some (.agg l.toArray)) (hp : Part l n s vs) :
    Quiet P w0 M N D { dst := d, op := .field t x k, type := t', pos := p, after := af, guard := g } T L (.agg vs.toArray) :=
  q_run fun a w ha _ => by
    subst h3
    have hs : Siz P fd.type s := hA.2
    have he : l.toArray.extract fd.offset (fd.offset + s) = vs.toArray := by rw [List.extract_toArray, List.extract_eq_take_drop, Nat.add_sub_cancel_left, hp.1]
    have := run_isAgg_agg hA w
    simp [execOp, ha.ev hx, Instr.field, run_underlying h1, h2, asAgg, part, this, run_sizeOf hs, he, -List.extract_toArray]
theorem q_fieldV1 {d : Option Tmp} {x : Operand} {l : List Value} {v : Value} {k n : Nat} {t t' : TypeId} {fs : Array Field} {fd : Field} {p : String} {af : Array Edge} {g : Option (Nat × Bool)} (h1 : P.underlying t = some (.struct fs)) (h2 : fs[k]? = some fd) (h3 : fd.offset = n) (hO : OneT P fd.type)
    (hx : ev T x = some (.agg l.toArray)) (hp : l[n]? = some v) :
    Quiet P w0 M N D { dst := d, op := .field t x k, type := t', pos := p, after := af, guard := g } T L v :=
  q_run fun a w ha _ => by
    have := run_isAgg_one hO w
    simp [execOp, ha.ev hx, Instr.field, run_underlying h1, h2, asAgg, part, this, h3, hp]

theorem q_extract {d : Option Tmp} {x : Operand} {vs : Array Value} {i : Nat} {v : Value} {t : TypeId} {p : String} {af : Array Edge} {g : Option (Nat × Bool)} (hx : ev T x = some (.tuple vs)) (hv : vs[i]? = some v) :
    Quiet P w0 M N D { dst := d, op := .extract x i, type := t, pos := p, after := af, guard := g } T L v :=
  q_run fun a w ha _ => by simp [execOp, ha.ev hx, Instr.extract, hv]

/-- A value that is built of parts: by a law of its own, asked of the kernel. -/
theorem q_build {d : Option Tmp} {ps : Array (Nat × Operand)} {vs : List (Nat × Value)} {v : Value} {t t' : TypeId} {p : String} {af : Array Edge} {g : Option (Nat × Bool)}
    (hx : evs T (ps.toList.map (·.2)) = some (vs.map (·.2))) (hi : ps.toList.map (·.1) = vs.map (·.1)) (h : ∀ w, (Instr.build t vs.toArray).run P w = .ok v w) :
    Quiet P w0 M N D { dst := d, op := .build t ps, type := t', pos := p, after := af, guard := g } T L v :=
  q_run fun a w ha _ => by
    have e : ps.map (fun x => (x.1, a.eval x.2)) = vs.toArray := by
      have h1 := ha.evs hx
      apply Array.ext'
      simp only [Array.toList_map]
      rw [List.map_map] at h1
      apply List.ext_getElem?
      intro j
      have h2 := congrArg (·[j]?) h1
      have h3 := congrArg (·[j]?) hi
      simp only [List.getElem?_map] at h2 h3 ⊢
      cases hq : ps.toList[j]? <;> cases hr : vs[j]? <;> simp_all
    simp only [execOp]
    rw [show (ps.map fun x => match x with | (i, x) => (i, a.eval x)) = vs.toArray from e]
    simp [h w]

/-! ### Loads -/
theorem run_loadCells_at {w : World} {b off s : Nat} {l vs : List Value} {e : TypeId} {fz : Nat × Nat} (h : w.heap[b]? = some (.cells l.toArray e fz)) (hp : Part l off s vs) : (loadCells ⟨b, off, none⟩ s).run P w = .ok vs.toArray w := by
  have := run_loadCells_list (P := P) w ⟨b, off, none⟩ vs (fun j v hv => by
    rw [Addr.add_none, cell_of_row w b _ l.toArray e fz h]
    rw [← hp.1, List.getElem?_take] at hv
    split at hv
    · simpa [List.getElem?_drop] using hv
    · cases hv)
  rwa [hp.2] at this

theorem run_loadAt_one {w : World} {b off : Nat} {l : List Value} {v : Value} {t e : TypeId} {fz : Nat × Nat} (hO : OneT P t) (h : w.heap[b]? = some (.cells l.toArray e fz)) (hv : l[off]? = some v) : (Instr.loadAt t (.pointer (some ⟨b, off, none⟩))).run P w = .ok v w := by
  have hc : w.cell? ⟨b, off, none⟩ = some v := by rw [cell_of_row w b off l.toArray e fz h]; simpa using hv
  simp [Instr.loadAt, Instr.sureAddr, loadVar, run_isAgg_one hO, hc]
theorem run_loadAt_agg {w : World} {b off s : Nat} {l vs : List Value} {t e : TypeId} {fz : Nat × Nat} (hA : Agg P t s) (h : w.heap[b]? = some (.cells l.toArray e fz)) (hp : Part l off s vs) : (Instr.loadAt t (.pointer (some ⟨b, off, none⟩))).run P w = .ok (.agg vs.toArray) w := by
  have hs : Siz P t s := hA.2
  have := run_isAgg_agg hA w
  simp [Instr.loadAt, Instr.sureAddr, loadVar, this, run_sizeOf hs, run_loadCells_at h hp]

theorem q_load1 (i : Nat) {d : Option Tmp} {x : Operand} {b off : Nat} {l : List Value} {v : Value} {t t' e : TypeId} {fz : Nat × Nat} {p : String} {af : Array Edge} {g : Option (Nat × Bool)} (hO : OneT P t)
    (hx : ev T x = some (.pointer (some ⟨b, off, none⟩))) (hl : look L i = some (b, .cells l.toArray e fz)) (hv : l[off]? = some v) :
    Quiet P w0 M N D { dst := d, op := .load t x, type := t', pos := p, after := af, guard := g } T L v :=
  q_run fun a w ha hw => by simp [execOp, ha.ev hx, run_loadAt_one hO (hw.known i b _ hl).1 hv]
theorem q_loadA (i : Nat) {d : Option Tmp} {x : Operand} {b off s : Nat} {l vs : List Value} {t t' e : TypeId} {fz : Nat × Nat} {p : String} {af : Array Edge} {g : Option (Nat × Bool)} (hA : Agg P t s)
    (hx : ev T x = some (.pointer (some ⟨b, off, none⟩))) (hl : look L i = some (b, .cells l.toArray e fz)) (hp : Part l off s vs) :
    Quiet P w0 M N D { dst := d, op := .load t x, type := t', pos := p, after := af, guard := g } T L (.agg vs.toArray) :=
  q_run fun a w ha hw => by simp [execOp, ha.ev hx, run_loadAt_agg hA (hw.known i b _ hl).1 hp]
/-- The whole of a variable. -/
theorem q_loadW (i : Nat) {d : Option Tmp} {x : Operand} {b s : Nat} {l : List Value} {t t' e : TypeId} {fz : Nat × Nat} {p : String} {af : Array Edge} {g : Option (Nat × Bool)} (hA : Agg P t s)
    (hx : ev T x = some (.pointer (some ⟨b, 0, none⟩))) (hl : look L i = some (b, .cells l.toArray e fz)) (hs : l.length = s) :
    Quiet P w0 M N D { dst := d, op := .load t x, type := t', pos := p, after := af, guard := g } T L (.agg l.toArray) :=
  q_loadA i hA hx hl (Part.whole hs)
/-- What lay there when the call began. -/
theorem St.oldBlock {w : World} (hw : St w0 M w L) {b : Nat} {o : Obj} (h : w0.heap[b]? = some o) (hM : b ∉ M) : w.heap[b]? = some o :=
  (hw.old b (Array.getElem?_eq_some_iff.1 h).1 hM).trans h
theorem q_load1o {d : Option Tmp} {x : Operand} {b off : Nat} {l : List Value} {v : Value} {t t' e : TypeId} {fz : Nat × Nat} {p : String} {af : Array Edge} {g : Option (Nat × Bool)} (hO : OneT P t)
    (hx : ev T x = some (.pointer (some ⟨b, off, none⟩))) (hl : w0.heap[b]? = some (.cells l.toArray e fz)) (hM : b ∉ M) (hv : l[off]? = some v) :
    Quiet P w0 M N D { dst := d, op := .load t x, type := t', pos := p, after := af, guard := g } T L v :=
  q_run fun a w ha hw => by simp [execOp, ha.ev hx, run_loadAt_one hO (hw.oldBlock hl hM) hv]
theorem q_loadAo {d : Option Tmp} {x : Operand} {b off s : Nat} {l vs : List Value} {t t' e : TypeId} {fz : Nat × Nat} {p : String} {af : Array Edge} {g : Option (Nat × Bool)} (hA : Agg P t s)
    (hx : ev T x = some (.pointer (some ⟨b, off, none⟩))) (hl : w0.heap[b]? = some (.cells l.toArray e fz)) (hM : b ∉ M) (hp : Part l off s vs) :
    Quiet P w0 M N D { dst := d, op := .load t x, type := t', pos := p, after := af, guard := g } T L (.agg vs.toArray) :=
  q_run fun a w ha hw => by simp [execOp, ha.ev hx, run_loadAt_agg hA (hw.oldBlock hl hM) hp]

/-! ### len, closures, nil checks -/
theorem q_lenSl {d : Option Tmp} {x : Operand} {a0 : Option Addr} {n c : Nat} {t e t' : TypeId} {p : String} {af : Array Edge} {g : Option (Nat × Bool)} (hu : P.underlying t = some (.slice e))
    (hx : ev T x = some (.slice a0 n c)) :
    Quiet P w0 M N D { dst := d, op := .call { callee := .builtin .len, args := #[x], argTypes := #[t] }, type := t', pos := p, after := af, guard := g } T L (.int .i64 n) :=
  q_run fun a w ha _ => by simp [execOp, resolve, invoke, builtin, ha.ev hx, Builtin.len_, run_underlying hu, goInt]
theorem q_lenArr {d : Option Tmp} {x : Operand} {v : Value} {n : Nat} {t e t' : TypeId} {p : String} {af : Array Edge} {g : Option (Nat × Bool)} (hu : P.underlying t = some (.array n e))
    (hx : ev T x = some v) :
    Quiet P w0 M N D { dst := d, op := .call { callee := .builtin .len, args := #[x], argTypes := #[t] }, type := t', pos := p, after := af, guard := g } T L (.int .i64 n) :=
  q_run fun a w ha _ => by simp [execOp, resolve, invoke, builtin, ha.ev hx, Builtin.len_, run_underlying hu, goInt]
theorem q_func {d : Option Tmp} {fn : Fn} {fs cs : Array Operand} {us vs : List Value} {t : TypeId} {p : String} {af : Array Edge} {g : Option (Nat × Bool)} (h1 : evs T fs.toList = some us) (h2 : evs T cs.toList = some vs) :
    Quiet P w0 M N D { dst := d, op := .makeFunc fn fs cs, type := t, pos := p, after := af, guard := g } T L (.func fn us.toArray vs.toArray) :=
  q_run fun a w ha _ => by
    have e1 : fs.map a.eval = us.toArray := by rw [← ha.evs h1]; simp [← Array.toList_map]
    have e2 : cs.map a.eval = vs.toArray := by rw [← ha.evs h2]; simp [← Array.toList_map]
    simp [execOp, Instr.makeFunc, e1, e2]
theorem q_nilck {d : Option Tmp} {x : Operand} {b : Addr} {t : TypeId} {p : String} {af : Array Edge} {g : Option (Nat × Bool)} (hx : ev T x = some (.pointer (some b))) :
    Quiet P w0 M N D { dst := d, op := .nilCheck x, type := t, pos := p, after := af, guard := g } T L (.pointer (some b)) :=
  q_run fun a w ha _ => by simp [execOp, ha.ev hx]
theorem q_nilckF {d : Option Tmp} {x : Operand} {f : FuncId} {fs cs : Array Value} {t : TypeId} {p : String} {af : Array Edge} {g : Option (Nat × Bool)} (hx : ev T x = some (.func (.func f) fs cs)) :
    Quiet P w0 M N D { dst := d, op := .nilCheck x, type := t, pos := p, after := af, guard := g } T L (.func (.func f) fs cs) :=
  q_run fun a w ha _ => by simp [execOp, ha.ev hx]

/-! ## Calls -/
def Ent (P : Program) (f : FuncId) : Prop := ∃ fn, P.funcs[f]? = some fn ∧ (fn.name == "runtime.NumGoroutine") = false ∧ fn.body.isNone = false
theorem run_enter {f : FuncId} (h : Ent P f) (args : Array Value) (w : World) : (callFunc f args).run P w = .ok (.enter f args) w := by
  obtain ⟨fn, h1, h2, h3⟩ := h
  have h2' : ¬ fn.name = "runtime.NumGoroutine" := by simpa using h2
  have h3' : ¬ fn.body = none := by cases hb : fn.body <;> simp_all
  simp [callFunc, h1, h2', h3']

theorem run_callOp {o : Oper} {a : Act} {x : Operand} {args : Array Operand} {ts : Array TypeId} {f : FuncId} {fs cs : Array Value} {vs : List Value} (ho : o.op = .call { callee := .value x, args := args, argTypes := ts }) (he : Ent P f)
    (hx : a.eval x = .func (.func f) fs cs) (hv : args.toList.map a.eval = vs) (w : World) : (execOp a.eval o).run P w = .ok (.enter f (fs ++ vs.toArray ++ cs)) w := by
  have e1 : args.map a.eval = vs.toArray := by rw [← hv]; simp [← Array.toList_map]
  simp [execOp, ho, resolve, hx, e1, Deferred.ofValue, invoke, run_enter he]

/-- A call that hands back one value, in a world that has grown. -/
theorem q_call {d : Option Tmp} {x : Operand} {args : Array Operand} {ts : Array TypeId} {f : FuncId} {fs cs : Array Value} {vs : List Value} {v : Value} {t : TypeId} {p : String} {af : Array Edge} {g : Option (Nat × Bool)}
    (he : Ent P f) (hx : ev T x = some (.func (.func f) fs cs)) (hv : evs T args.toList = some vs)
    (h : ∀ w, St w0 M w L → Calls P f (fs ++ vs.toArray ++ cs) w fun e w' => e = .returned v ∧ Below w.heap.size w w') :
    Quiet P w0 M N D { dst := d, op := .call { callee := .value x, args := args, argTypes := ts }, type := t, pos := p, after := af, guard := g } T L v := by
  intro a w ha hw
  unfold Oper.quietAt
  rw [run_callOp rfl he (ha.ev hx) (ha.evs hv) w]
  exact ⟨rfl, (h w hw).mono fun e w' ⟨h1, h2⟩ => ⟨h1, hw.grow h2, h2⟩⟩

/-- A contract of a function that only reckons. -/
def PureF (P : Program) (f : FuncId) (args : List Value) (v : Value) : Prop := ∀ w, Calls P f args.toArray w fun e w' => e = .returned v ∧ Below w.heap.size w w'
theorem q_pure {d : Option Tmp} {args : Array Operand} {ts : Array TypeId} {f : FuncId} {vs : List Value} {v : Value} {t : TypeId} {p : String} {af : Array Edge} {g : Option (Nat × Bool)}
    (he : Ent P f) (hv : evs T args.toList = some vs) (h : PureF P f vs v) :
    Quiet P w0 M N D { dst := d, op := .call { callee := .value (.func f), args := args, argTypes := ts }, type := t, pos := p, after := af, guard := g } T L v :=
  q_call (fs := #[]) (cs := #[]) he rfl hv (fun w _ => by simpa using h w)

/-! ## Loud operations -/
theorem s_allocG (i : Nat) {d : Nat} {e : TypeId} {z : Value} {t : TypeId} {p : String} {af : Array Edge} {g : Option (Nat × Bool)} {K : TL → HL → Prop} {Q : Exit → Act → World → Prop} (hN : Nat.blt d N = true) (hz : Zer P e z) (l : List Value) (hl : z.cells.toList = l)
    (k : ∀ b, K ((d, .pointer (some ⟨b, 0, none⟩)) :: T) ((i, (b, .cells l.toArray e (0, 0))) :: L)) :
    Step P w0 M N D { dst := some d, op := .alloc e, type := t, pos := p, after := af, guard := g } T L K Q := by
  intro a w ha hw
  have e1 : l.toArray = z.cells := by rw [← hl]
  have hr : (execOp a.eval { dst := some d, op := .alloc e, type := t, pos := p, after := af, guard := g }).run P w = .ok (.value (.pointer (some ⟨w.heap.size, 0, none⟩))) (w.alloc (.cells l.toArray e)) := by
    simp [execOp, Instr.alloc, run_zeroValue hz, newVar, newRow, e1]
  refine wpIn_of_wp (fun c h => by cases h) ?_
  unfold Oper.wp
  rw [hr]
  exact ⟨_, _, ha.put (by simpa [Nat.blt_eq] using hN) _, hw.alloc i _, k w.heap.size⟩
theorem s_allocA (i : Nat) {d : Nat} {e : TypeId} {l : List Value} {t : TypeId} {p : String} {af : Array Edge} {g : Option (Nat × Bool)} {K : TL → HL → Prop} {Q : Exit → Act → World → Prop} (hN : Nat.blt d N = true) (hz : Zer P e (.agg l.toArray))
    (k : ∀ b, K ((d, .pointer (some ⟨b, 0, none⟩)) :: T) ((i, (b, .cells l.toArray e (0, 0))) :: L)) :
    Step P w0 M N D { dst := some d, op := .alloc e, type := t, pos := p, after := af, guard := g } T L K Q := s_allocG i hN hz l (by simp [Value.cells]) k
theorem s_alloc1 (i : Nat) {d : Nat} {e : TypeId} {z : Value} {t : TypeId} {p : String} {af : Array Edge} {g : Option (Nat × Bool)} {K : TL → HL → Prop} {Q : Exit → Act → World → Prop} (hN : Nat.blt d N = true) (hz : Zer P e z) (h1 : z.cells.toList = [z])
    (k : ∀ b, K ((d, .pointer (some ⟨b, 0, none⟩)) :: T) ((i, (b, .cells [z].toArray e (0, 0))) :: L)) :
    Step P w0 M N D { dst := some d, op := .alloc e, type := t, pos := p, after := af, guard := g } T L K Q := s_allocG i hN hz [z] h1 k

theorem s_boxG (i : Nat) {d : Nat} {e : TypeId} {x : Operand} {v : Value} {t : TypeId} {p : String} {af : Array Edge} {g : Option (Nat × Bool)} {K : TL → HL → Prop} {Q : Exit → Act → World → Prop} (hN : Nat.blt d N = true) (hx : ev T x = some v) (l : List Value) (hl : v.cells.toList = l)
    (k : ∀ b, K ((d, .pointer (some ⟨b, 0, none⟩)) :: T) ((i, (b, .cells l.toArray e (0, 0))) :: L)) :
    Step P w0 M N D { dst := some d, op := .box e x, type := t, pos := p, after := af, guard := g } T L K Q := by
  intro a w ha hw
  have e1 : l.toArray = v.cells := by rw [← hl]
  have hr : (execOp a.eval { dst := some d, op := .box e x, type := t, pos := p, after := af, guard := g }).run P w = .ok (.value (.pointer (some ⟨w.heap.size, 0, none⟩))) (w.alloc (.cells l.toArray e)) := by
    simp [execOp, Instr.box, ha.ev hx, newVar, newRow, e1]
  refine wpIn_of_wp (fun c h => by cases h) ?_
  unfold Oper.wp
  rw [hr]
  exact ⟨_, _, ha.put (by simpa [Nat.blt_eq] using hN) _, hw.alloc i _, k w.heap.size⟩
theorem s_boxA (i : Nat) {d : Nat} {e : TypeId} {x : Operand} {l : List Value} {t : TypeId} {p : String} {af : Array Edge} {g : Option (Nat × Bool)} {K : TL → HL → Prop} {Q : Exit → Act → World → Prop} (hN : Nat.blt d N = true) (hx : ev T x = some (.agg l.toArray))
    (k : ∀ b, K ((d, .pointer (some ⟨b, 0, none⟩)) :: T) ((i, (b, .cells l.toArray e (0, 0))) :: L)) :
    Step P w0 M N D { dst := some d, op := .box e x, type := t, pos := p, after := af, guard := g } T L K Q := s_boxG i hN hx l (by simp [Value.cells]) k
theorem s_box1 (i : Nat) {d : Nat} {e : TypeId} {x : Operand} {v : Value} {t : TypeId} {p : String} {af : Array Edge} {g : Option (Nat × Bool)} {K : TL → HL → Prop} {Q : Exit → Act → World → Prop} (hN : Nat.blt d N = true) (hx : ev T x = some v) (h1 : v.cells.toList = [v])
    (k : ∀ b, K ((d, .pointer (some ⟨b, 0, none⟩)) :: T) ((i, (b, .cells [v].toArray e (0, 0))) :: L)) :
    Step P w0 M N D { dst := some d, op := .box e x, type := t, pos := p, after := af, guard := g } T L K Q := s_boxG i hN hx [v] h1 k

def wr (l : List Value) (off : Nat) (vs : List Value) : List Value := l.take off ++ vs ++ l.drop (off + vs.length)

theorem run_storeAt {w : World} {b off s : Nat} {l vs : List Value} {v : Value} {t e : TypeId} (hS : Siz P t s) (h : w.heap[b]? = some (.cells l.toArray e (0, 0))) (hv : v.cells.toList = vs) (hs : vs.length = s) (h1 : vs.all (·.oneCell') = true) (hfit : off + s ≤ l.length) :
    (Instr.storeAt t (.pointer (some ⟨b, off, none⟩)) v).run P w = .ok () (w.setRow b (wr l off vs).toArray) := by
  have hst := run_storeCells_at P b off e vs 0 l.toArray w h (by simp; omega) (by simpa using h1)
  have hsz : v.cells.size = s := by rw [← hs, ← hv]; simp
  simp only [Nat.add_zero] at hst
  simp [Instr.storeAt, Instr.sureAddr, storeVar, run_sizeOf hS, hsz, hv, hst, wr]

theorem s_storeG (i : Nat) {x y : Operand} {b off s : Nat} {l vs : List Value} {v : Value} {t t' e : TypeId} {p : String} {af : Array Edge} {g : Option (Nat × Bool)} {K : TL → HL → Prop} {Q : Exit → Act → World → Prop}
    (hS : Siz P t s) (hx : ev T x = some (.pointer (some ⟨b, off, none⟩))) (hy : ev T y = some v) (hl : look L i = some (b, .cells l.toArray e (0, 0))) (hv : v.cells.toList = vs) (hs : vs.length = s) (h1 : vs.all (·.oneCell') = true) (hfit : off + s ≤ l.length) {l' : List Value} (hw' : wr l off vs = l')
    (k : K T ((i, (b, .cells l'.toArray e (0, 0))) :: L)) :
    Step P w0 M N D { dst := none, op := .store t x y, type := t', pos := p, after := af, guard := g } T L K Q := by
  intro a w ha hw
  subst hw'
  have hb := (hw.known i b _ hl).1
  have hr : (execOp a.eval { dst := none, op := .store t x y, type := t', pos := p, after := af, guard := g }).run P w = .ok .skip (w.setRow b (wr l off vs).toArray) := by
    simp [execOp, ha.ev hx, ha.ev hy, run_storeAt hS hb hv hs h1 hfit]
  refine wpIn_of_wp (fun c h => by cases h) ?_
  unfold Oper.wp
  rw [hr]
  exact ⟨_, _, ha, hw.set hl ⟨rfl, rfl, rfl, by simp⟩ (fun j _ hj => setRow_other w b j _ hj) (setRow_heap w b _ _ e _ hb), k⟩
/-- Cells of a struct or an array, into the middle of a block. -/
theorem s_storeA (i : Nat) {x y : Operand} {b off s : Nat} {l vs : List Value} {t t' e : TypeId} {p : String} {af : Array Edge} {g : Option (Nat × Bool)} {K : TL → HL → Prop} {Q : Exit → Act → World → Prop}
    (hS : Siz P t s) (hx : ev T x = some (.pointer (some ⟨b, off, none⟩))) (hy : ev T y = some (.agg vs.toArray)) (hl : look L i = some (b, .cells l.toArray e (0, 0))) (hs : vs.length = s) (h1 : vs.all (·.oneCell') = true) (hfit : off + s ≤ l.length) {l' : List Value} (hw' : wr l off vs = l')
    (k : K T ((i, (b, .cells l'.toArray e (0, 0))) :: L)) :
    Step P w0 M N D { dst := none, op := .store t x y, type := t', pos := p, after := af, guard := g } T L K Q :=
  s_storeG i hS hx hy hl (by simp [Value.cells]) hs h1 hfit hw' k
/-- One cell, into the middle of a block. -/
theorem s_store1 (i : Nat) {x y : Operand} {b off : Nat} {l : List Value} {v : Value} {t t' e : TypeId} {p : String} {af : Array Edge} {g : Option (Nat × Bool)} {K : TL → HL → Prop} {Q : Exit → Act → World → Prop}
    (hS : Siz P t 1) (hx : ev T x = some (.pointer (some ⟨b, off, none⟩))) (hy : ev T y = some v) (hl : look L i = some (b, .cells l.toArray e (0, 0))) (hv : v.cells.toList = [v]) (h1 : v.oneCell' = true) (hfit : off + 1 ≤ l.length) {l' : List Value} (hw' : wr l off [v] = l')
    (k : K T ((i, (b, .cells l'.toArray e (0, 0))) :: L)) :
    Step P w0 M N D { dst := none, op := .store t x y, type := t', pos := p, after := af, guard := g } T L K Q :=
  s_storeG i hS hx hy hl hv rfl (by simp [h1]) hfit hw' k
/-- A whole variable is overwritten. -/
theorem s_storeW (i : Nat) {x y : Operand} {b s : Nat} {l vs : List Value} {t t' e : TypeId} {p : String} {af : Array Edge} {g : Option (Nat × Bool)} {K : TL → HL → Prop} {Q : Exit → Act → World → Prop}
    (hS : Siz P t s) (hx : ev T x = some (.pointer (some ⟨b, 0, none⟩))) (hy : ev T y = some (.agg vs.toArray)) (hl : look L i = some (b, .cells l.toArray e (0, 0))) (hls : l.length = s) (hs : vs.length = s) (h1 : vs.all (·.oneCell') = true)
    (k : K T ((i, (b, .cells vs.toArray e (0, 0))) :: L)) :
    Step P w0 M N D { dst := none, op := .store t x y, type := t', pos := p, after := af, guard := g } T L K Q := by
  refine s_storeA i hS hx hy hl hs h1 (by omega) (?_ : wr l 0 vs = vs) k
  simp [wr, hs, ← hls]
/-- A variable of one cell. -/
theorem s_storeV (i : Nat) {x y : Operand} {b : Nat} {u v : Value} {t t' e : TypeId} {p : String} {af : Array Edge} {g : Option (Nat × Bool)} {K : TL → HL → Prop} {Q : Exit → Act → World → Prop}
    (hS : Siz P t 1) (hx : ev T x = some (.pointer (some ⟨b, 0, none⟩))) (hy : ev T y = some v) (hl : look L i = some (b, .cells [u].toArray e (0, 0))) (hv : v.cells.toList = [v]) (h1 : v.oneCell' = true)
    (k : K T ((i, (b, .cells [v].toArray e (0, 0))) :: L)) :
    Step P w0 M N D { dst := none, op := .store t x y, type := t', pos := p, after := af, guard := g } T L K Q :=
  s_store1 i hS hx hy hl hv h1 (by simp) (by simp [wr]) k

/-- A call, whatever it does. -/
theorem s_call {d : Nat} {x : Operand} {args : Array Operand} {ts : Array TypeId} {f : FuncId} {fs cs : Array Value} {vs : List Value} {t : TypeId} {p : String} {af : Array Edge} {g : Option (Nat × Bool)} {K : TL → HL → Prop} {Q : Exit → Act → World → Prop}
    (he : Ent P f) (hN : Nat.blt d N = true) (hx : ev T x = some (.func (.func f) fs cs)) (hv : evs T args.toList = some vs)
    (h : ∀ w, St w0 M w L → Calls P f (fs ++ vs.toArray ++ cs) w fun e w' => ∃ v L', e = .returned v ∧ St w0 M w' L' ∧ K ((d, v) :: T) L') :
    Step P w0 M N D { dst := some d, op := .call { callee := .value x, args := args, argTypes := ts }, type := t, pos := p, after := af, guard := g } T L K Q := by
  intro a w ha hw
  refine wpIn_of_wp (fun c h => by cases h) ?_
  unfold Oper.wp
  rw [run_callOp rfl he (ha.ev hx) (ha.evs hv) w]
  refine (h w hw).mono fun e w' ⟨v, L', h1, h2, h3⟩ => ?_
  subst h1
  exact ⟨_, _, ha.put (by simpa [Nat.blt_eq] using hN) v, h2, h3⟩

/-- A call that makes one new block, and hands back what leads to it. -/
theorem s_callNew (i : Nat) {d : Nat} {x : Operand} {args : Array Operand} {ts : Array TypeId} {f : FuncId} {fs cs : Array Value} {vs : List Value} {t : TypeId} {p : String} {af : Array Edge} {g : Option (Nat × Bool)} {K : TL → HL → Prop} {Q : Exit → Act → World → Prop} {R : Value → Nat → Obj → Prop}
    (he : Ent P f) (hN : Nat.blt d N = true) (hx : ev T x = some (.func (.func f) fs cs)) (hv : evs T args.toList = some vs)
    (h : ∀ w, St w0 M w L → Calls P f (fs ++ vs.toArray ++ cs) w fun e w' => ∃ v b o, e = .returned v ∧ R v b o ∧ Below w.heap.size w w' ∧ w'.heap[b]? = some o ∧ w.heap.size ≤ b)
    (k : ∀ v b o, R v b o → K ((d, v) :: T) ((i, (b, o)) :: L)) :
    Step P w0 M N D { dst := some d, op := .call { callee := .value x, args := args, argTypes := ts }, type := t, pos := p, after := af, guard := g } T L K Q :=
  s_call he hN hx hv fun w hw => (h w hw).mono fun _ _ ⟨v, b, o, h1, h2, h3, h4, h5⟩ =>
    ⟨v, _, h1, (hw.grow h3).add h4 (Nat.le_trans hw.size h5) (fun j c p hl => by have := hw.lt hl; omega), k v b o h2⟩

/-- A panic of the program's own. -/
theorem s_panic {x : Operand} {v : Value} {d : Option Tmp} {t t0 : TypeId} {p : String} {af : Array Edge} {g : Option (Nat × Bool)} {K : TL → HL → Prop} {Q : Exit → Act → World → Prop} (hx : ev T x = some (.iface t0 v))
    (k : At w0 M N D Q (.panic [{ v := .iface t0 v, recovered := false }]) T L) :
    Step P w0 M N D { dst := d, op := .panic x, type := t, pos := p, after := af, guard := g } T L K Q := by
  intro a w ha hw
  have hr : (execOp a.eval { dst := d, op := .panic x, type := t, pos := p, after := af, guard := g }).run P w = .halt (.panic (.iface t0 v)) w := by
    simp [execOp, ha.ev hx, Instr.panic]
  refine wpIn_of_wp (fun c h => by cases h) ?_
  unfold Oper.wp
  rw [hr]
  exact k a w ha hw
/-- A call that hands back a value or panics. -/
theorem s_callP {d : Nat} {x : Operand} {args : Array Operand} {ts : Array TypeId} {f : FuncId} {fs cs : Array Value} {vs : List Value} {t : TypeId} {p : String} {af : Array Edge} {g : Option (Nat × Bool)} {K : TL → HL → Prop} {Q : Exit → Act → World → Prop}
    (he : Ent P f) (hN : Nat.blt d N = true) (hx : ev T x = some (.func (.func f) fs cs)) (hv : evs T args.toList = some vs)
    (h : ∀ w, St w0 M w L → Calls P f (fs ++ vs.toArray ++ cs) w fun e w' => (∃ v L', e = .returned v ∧ St w0 M w' L' ∧ K ((d, v) :: T) L') ∨ (∃ c, e = .panicked c ∧ ∀ a, Fr N D a T → Q (.panic c) a w')) :
    Step P w0 M N D { dst := some d, op := .call { callee := .value x, args := args, argTypes := ts }, type := t, pos := p, after := af, guard := g } T L K Q := by
  intro a w ha hw
  refine wpIn_of_wp (fun c h => by cases h) ?_
  unfold Oper.wp
  rw [run_callOp rfl he (ha.ev hx) (ha.evs hv) w]
  refine (h w hw).mono fun e w' h => ?_
  rcases h with ⟨v, L', h1, h2, h3⟩ | ⟨c, h1, h2⟩
  · subst h1
    exact ⟨_, _, ha.put (by simpa [Nat.blt_eq] using hN) v, h2, h3⟩
  · subst h1
    exact h2 a ha

def IfT (P : Program) (t : TypeId) : Prop := ∀ (v : Value) (w : World), (Instr.makeInterface t v).run P w = .ok (.iface t v) w
theorem q_iface {d : Option Tmp} {x : Operand} {v : Value} {t t' : TypeId} {p : String} {af : Array Edge} {g : Option (Nat × Bool)} (hi : IfT P t) (hx : ev T x = some v) :
    Quiet P w0 M N D { dst := d, op := .makeInterface t x, type := t', pos := p, after := af, guard := g } T L (.iface t v) :=
  q_run fun a w ha _ => by simp [execOp, ha.ev hx, hi v w]

/-! ## Steps by one operation -/
theorem steps_q {ops : Array Oper} {d : Nat} {op : Op} {t : TypeId} {p : String} {af : Array Edge} {r : List Oper} {v : Value} {K : TL → HL → Prop} {Q : Exit → Act → World → Prop} (hN : Nat.blt d N = true)
    (h : Quiet P w0 M N D { dst := some d, op := op, type := t, pos := p, after := af, guard := none } T L v) (k : Steps P w0 M N D ops r ((d, v) :: T) L K Q) :
    Steps P w0 M N D ops ({ dst := some d, op := op, type := t, pos := p, after := af, guard := none } :: r) T L K Q := by
  simp only [Steps]
  exact h.step rfl (by simpa [Nat.blt_eq] using hN) k
theorem steps_s {ops : Array Oper} {d : Option Tmp} {op : Op} {t : TypeId} {p : String} {af : Array Edge} {r : List Oper} {K : TL → HL → Prop} {Q : Exit → Act → World → Prop}
    (h : Step P w0 M N D { dst := d, op := op, type := t, pos := p, after := af, guard := none } T L (fun T' L' => Steps P w0 M N D ops r T' L' K Q) Q) :
    Steps P w0 M N D ops ({ dst := d, op := op, type := t, pos := p, after := af, guard := none } :: r) T L K Q := by
  simp only [Steps]
  exact h
theorem steps_nil {ops : Array Oper} {K : TL → HL → Prop} {Q : Exit → Act → World → Prop} (k : K T L) : Steps P w0 M N D ops [] T L K Q := k
/-- A guarded operation whose guard holds. -/
theorem steps_gq {ops : Array Oper} {d j e : Nat} {want : Bool} {op : Op} {t : TypeId} {p : String} {af : Array Edge} {r : List Oper} {v : Value} {K : TL → HL → Prop} {Q : Exit → Act → World → Prop} (hN : Nat.blt d N = true)
    (hd : (ops[j]?).bind (·.dst) = some e) (hb : look T e = some (.bool want))
    (h : Quiet P w0 M N D { dst := some d, op := op, type := t, pos := p, after := af, guard := some (j, want) } T L v) (k : Steps P w0 M N D ops r ((d, v) :: T) L K Q) :
    Steps P w0 M N D ops ({ dst := some d, op := op, type := t, pos := p, after := af, guard := some (j, want) } :: r) T L K Q := by
  simp only [Steps]
  refine ⟨e, want, hd, hb, ?_⟩
  rw [if_pos rfl]
  exact h.step rfl (by simpa [Nat.blt_eq] using hN) k
/-- OneT whose guard does not hold: it is passed by. -/
theorem steps_gn {ops : Array Oper} {d j e : Nat} {want b : Bool} {op : Op} {t : TypeId} {p : String} {af : Array Edge} {r : List Oper} {K : TL → HL → Prop} {Q : Exit → Act → World → Prop} (hN : Nat.blt d N = true)
    (hd : (ops[j]?).bind (·.dst) = some e) (hb : look T e = some (.bool b)) (hne : b = !want) (k : Steps P w0 M N D ops r ((d, undef) :: T) L K Q) :
    Steps P w0 M N D ops ({ dst := some d, op := op, type := t, pos := p, after := af, guard := some (j, want) } :: r) T L K Q := by
  simp only [Steps]
  refine ⟨e, b, hd, hb, ?_⟩
  rw [if_neg (by cases want <;> simp [hne])]
  exact ⟨by simpa [Nat.blt_eq] using hN, k⟩

theorem qi_nil {ops : Array Oper} {Lq : HL} {K : TL → Prop} (k : K T) : QIdx P w0 M N D ops Lq [] T K := k
theorem qi_q {ops : Array Oper} {Lq : HL} {i d : Nat} {op : Op} {t : TypeId} {p : String} {af : Array Edge} {r : List Nat} {v : Value} {K : TL → Prop}
    (ho : ops[i]? = some { dst := some d, op := op, type := t, pos := p, after := af, guard := none }) (hN : Nat.blt d N = true)
    (h : Quiet P w0 M N D { dst := some d, op := op, type := t, pos := p, after := af, guard := none } T Lq v) (k : QIdx P w0 M N D ops Lq r ((d, v) :: T) K) : QIdx P w0 M N D ops Lq (i :: r) T K :=
  ⟨_, d, ho, rfl, by simpa [Nat.blt_eq] using hN, v, h, k⟩
theorem qi_gq {ops : Array Oper} {Lq : HL} {i d j e : Nat} {want : Bool} {op : Op} {t : TypeId} {p : String} {af : Array Edge} {r : List Nat} {v : Value} {K : TL → Prop}
    (ho : ops[i]? = some { dst := some d, op := op, type := t, pos := p, after := af, guard := some (j, want) }) (hN : Nat.blt d N = true)
    (hd : (ops[j]?).bind (·.dst) = some e) (hb : look T e = some (.bool want))
    (h : Quiet P w0 M N D { dst := some d, op := op, type := t, pos := p, after := af, guard := some (j, want) } T Lq v) (k : QIdx P w0 M N D ops Lq r ((d, v) :: T) K) : QIdx P w0 M N D ops Lq (i :: r) T K :=
  ⟨_, d, ho, rfl, by simpa [Nat.blt_eq] using hN, e, want, hd, hb, by rw [if_pos rfl]; exact ⟨v, h, k⟩⟩
theorem qi_gn {ops : Array Oper} {Lq : HL} {i d j e : Nat} {want b : Bool} {op : Op} {t : TypeId} {p : String} {af : Array Edge} {r : List Nat} {K : TL → Prop}
    (ho : ops[i]? = some { dst := some d, op := op, type := t, pos := p, after := af, guard := some (j, want) }) (hN : Nat.blt d N = true)
    (hd : (ops[j]?).bind (·.dst) = some e) (hb : look T e = some (.bool b)) (hne : b = !want) (k : QIdx P w0 M N D ops Lq r ((d, undef) :: T) K) : QIdx P w0 M N D ops Lq (i :: r) T K :=
  ⟨_, d, ho, rfl, by simpa [Nat.blt_eq] using hN, e, b, hd, hb, by rw [if_neg (by cases want <;> simp [hne])]; exact k⟩

theorem AllR.imp {φ ψ : Nat → Prop} (h : ∀ i, φ i → ψ i) : ∀ {l : List Nat}, AllR l φ → AllR l ψ
  | [], _ => trivial
  | _ :: _, hl => ⟨h _ hl.1, AllR.imp h hl.2⟩
theorem tail_nil {ops : Array Oper} {Tq : TL} {PQ : List PanicEntry → World → Prop} {Lq : HL} {listed : Array Bool} {K : TL → HL → Prop} (hr : (Region.ready .any ops listed).isEmpty = true) (k : K T L) : Tail P w0 M N D Tq PQ ops Lq 0 listed T L K :=
  ⟨by simpa using hr, k⟩
theorem tail_cons {ops : Array Oper} {Tq : TL} {PQ : List PanicEntry → World → Prop} {Lq : HL} {f : Nat} {listed : Array Bool} {K : TL → HL → Prop} (rs : List Nat) (hr : (Region.ready .any ops listed == rs && !rs.isEmpty) = true)
    (h : AllR rs fun i => ∃ o, ops[i]? = some o ∧ o.guard = none ∧ Step P w0 M N D o T L (fun T' L' => SubL Lq L' ∧ Tail P w0 M N D Tq PQ ops Lq f (listed.setIfInBounds i true) T' L' K) (Px N D Tq PQ)) :
    Tail P w0 M N D Tq PQ ops Lq (f + 1) listed T L K := by
  simp only [Bool.and_eq_true, beq_iff_eq] at hr
  exact .inl ⟨rs, hr.1, by intro e; simp [e] at hr, h.imp fun i ⟨o, h1, h2, h3⟩ => ⟨o, h1, .inl h2, h3⟩⟩
/-- Where just one may come up, and its guard lets it. -/
theorem tail_one_g {ops : Array Oper} {Tq : TL} {PQ : List PanicEntry → World → Prop} {Lq : HL} {f : Nat} {listed : Array Bool} {K : TL → HL → Prop} (i : Nat) (hr : (Region.ready .any ops listed == [i]) = true) {o : Oper} {j e : Nat} {want : Bool} (ho : ops[i]? = some o) (hg : o.guard = some (j, want)) (he : (ops[j]?).bind (·.dst) = some e) (hb : look T e = some (.bool want))
    (h : Step P w0 M N D o T L (fun T' L' => SubL Lq L' ∧ Tail P w0 M N D Tq PQ ops Lq f (listed.setIfInBounds i true) T' L' K) (Px N D Tq PQ)) :
    Tail P w0 M N D Tq PQ ops Lq (f + 1) listed T L K :=
  .inl ⟨[i], by simpa using hr, by simp, ⟨o, ho, .inr ⟨j, want, e, hg, he, hb⟩, h⟩, trivial⟩
/-- Where just one may come up. -/
theorem tail_one {ops : Array Oper} {Tq : TL} {PQ : List PanicEntry → World → Prop} {Lq : HL} {f : Nat} {listed : Array Bool} {K : TL → HL → Prop} (i : Nat) (hr : (Region.ready .any ops listed == [i]) = true) {o : Oper} (ho : ops[i]? = some o) (hg : o.guard = none)
    (h : Step P w0 M N D o T L (fun T' L' => SubL Lq L' ∧ Tail P w0 M N D Tq PQ ops Lq f (listed.setIfInBounds i true) T' L' K) (Px N D Tq PQ)) :
    Tail P w0 M N D Tq PQ ops Lq (f + 1) listed T L K :=
  tail_cons [i] (by simpa using hr) ⟨⟨o, ho, hg, h⟩, trivial⟩

theorem Step.weaken {o : Oper} {T' : TL} {L' : HL} {K : TL → HL → Prop} {Q : Exit → Act → World → Prop} (h : Step P w0 M N D o T' L' K Q) (hT : ∀ i x, look T' i = some x → look T i = some x) (hL : ∀ i x, look L' i = some x → look L i = some x) : Step P w0 M N D o T L K Q :=
  fun a w ha hw => h a w (ha.weaken hT) (hw.weaken hL)
theorem Tail.weaken {ops : Array Oper} {Tq : TL} {PQ : List PanicEntry → World → Prop} {Lq : HL} {L' : HL} {K : TL → HL → Prop} (hK : ∀ {T T' L L'}, K T' L' → (∀ i x, look T' i = some x → look T i = some x) → (∀ i x, look L' i = some x → look L i = some x) → K T L)
    (hL : ∀ i x, look L' i = some x → look L i = some x) : ∀ {f : Nat} {listed : Array Bool} {T T' : TL}, (∀ i x, look T' i = some x → look T i = some x) → Tail P w0 M N D Tq PQ ops Lq f listed T' L' K → Tail P w0 M N D Tq PQ ops Lq f listed T L K
  | 0, _, _, _, hT, h => ⟨h.1, hK h.2 hT hL⟩
  | _ + 1, _, _, _, hT, .inl ⟨rs, hr, hne, h⟩ => by
    refine .inl ⟨rs, hr, hne, ?_⟩
    clear hr hne
    induction rs with
    | nil => trivial
    | cons i r ih => exact ⟨let ⟨o, ho, hg, hs⟩ := h.1; ⟨o, ho, hg.imp_right fun ⟨j, want, e, h1, h2, h3⟩ => ⟨j, want, e, h1, h2, hT _ _ h3⟩, hs.weaken hT hL⟩, ih h.2⟩
  | f + 1, listed, T, T', hT, .inr ⟨i, hB, hs, o, d, ho, hd, hN, hq⟩ => by
    have hc : ∀ v : Value, ∀ k x, look ((d, v) :: T') k = some x → look ((d, v) :: T) k = some x := fun v k x hk => by rw [look_cons] at hk ⊢; split <;> simp_all
    refine .inr ⟨i, hB, hs, o, d, ho, hd, hN, ?_⟩
    split at hq
    · rename_i hg
      obtain ⟨v, hv, hq⟩ := hq
      exact ⟨v, fun a w ha hw => hv a w (ha.weaken hT) hw, Tail.weaken hK hL (hc v) hq⟩
    · rename_i j want hg
      obtain ⟨e, b, he, hb, hq⟩ := hq
      refine ⟨e, b, he, hT _ _ hb, ?_⟩
      split at hq
      · rename_i hbw
        obtain ⟨v, hv, hq⟩ := hq
        rw [if_pos hbw]
        exact ⟨v, fun a w ha hw => hv a w (ha.weaken hT) hw, Tail.weaken hK hL (hc v) hq⟩
      · rename_i hbw
        rw [if_neg hbw]
        exact Tail.weaken hK hL (hc undef) hq
/-- What reads alone, and may come up: it may as well come now. -/
theorem tail_q {ops : Array Oper} {Tq : TL} {PQ : List PanicEntry → World → Prop} {Lq : HL} {f : Nat} {listed : Array Bool} {K : TL → HL → Prop} (i : Nat) (hB : (lexIdx ops [i] listed && Region.noSelect ops) = true)
    (h : QIdx P w0 M N D ops Lq [i] T fun T' => Tail P w0 M N D Tq PQ ops Lq f (listed.setIfInBounds i true) T' L K) : Tail P w0 M N D Tq PQ ops Lq (f + 1) listed T L K := by
  simp only [Bool.and_eq_true] at hB
  exact .inr ⟨i, hB.1, hB.2, h⟩
theorem tail_quiet {ops : Array Oper} {Tq : TL} {PQ : List PanicEntry → World → Prop} {Lq : HL} {f : Nat} {listed : Array Bool} {K : TL → HL → Prop} (i : Nat) {o : Oper} {d : Nat} {v : Value} (hB : (lexIdx ops [i] listed && Region.noSelect ops && Nat.blt d N) = true) (ho : ops[i]? = some o) (hd : o.dst = some d) (hg : o.guard = none)
    (hq : Quiet P w0 M N D o T Lq v) (k : Tail P w0 M N D Tq PQ ops Lq f (listed.setIfInBounds i true) ((d, v) :: T) L K) : Tail P w0 M N D Tq PQ ops Lq (f + 1) listed T L K := by
  simp only [Bool.and_eq_true] at hB
  exact tail_q i (by simp [hB.1.1, hB.1.2]) ⟨o, d, ho, hd, by simpa [Nat.blt_eq] using hB.2, by rw [hg]; exact ⟨v, hq, k⟩⟩

theorem swap_look {α : Type} {i j : Nat} (hij : i ≠ j) {u v : α} {T : List (Nat × α)} : ∀ k x, look ((j, v) :: (i, u) :: T) k = some x → look ((i, u) :: (j, v) :: T) k = some x := by
  intro k x h
  simp only [look_cons] at *
  by_cases h1 : j = k
  · subst h1; rw [if_neg hij, if_pos rfl]; rw [if_pos rfl] at h; exact h
  · rw [if_neg h1] at h ⊢; exact h

/-- Two variables that are laid in whichever order. -/
theorem tail_alloc2 {ops : Array Oper} {Tq : TL} {PQ : List PanicEntry → World → Prop} {Lq : HL} {f : Nat} {listed : Array Bool} {K : TL → HL → Prop} (i j : Nat) {di dj : Nat} {ei ej ti tj : TypeId} {pi pj : String} {ai aj : Array Edge} {zi zj : Value} {li lj : List Value}
    (hr : (Region.ready .any ops listed == [i, j] && Region.ready .any ops (listed.setIfInBounds i true) == [j] && Region.ready .any ops (listed.setIfInBounds j true) == [i] && !Nat.beq i j && !Nat.beq di dj && Nat.blt di N && Nat.blt dj N) = true)
    (hoi : ops[i]? = some { dst := some di, op := .alloc ei, type := ti, pos := pi, after := ai, guard := none }) (hoj : ops[j]? = some { dst := some dj, op := .alloc ej, type := tj, pos := pj, after := aj, guard := none })
    (hzi : Zer P ei zi) (hli : zi.cells.toList = li) (hzj : Zer P ej zj) (hlj : zj.cells.toList = lj) (hs : SubL Lq L) (hqi : look Lq di = none) (hqj : look Lq dj = none)
    (hK : ∀ {T T' L L'}, K T' L' → (∀ i x, look T' i = some x → look T i = some x) → (∀ i x, look L' i = some x → look L i = some x) → K T L)
    (k : ∀ bi bj, Tail P w0 M N D Tq PQ ops Lq f ((listed.setIfInBounds i true).setIfInBounds j true) ((dj, .pointer (some ⟨bj, 0, none⟩)) :: (di, .pointer (some ⟨bi, 0, none⟩)) :: T) ((dj, (bj, .cells lj.toArray ej (0, 0))) :: (di, (bi, .cells li.toArray ei (0, 0))) :: L) K) :
    Tail P w0 M N D Tq PQ ops Lq (f + 2) listed T L K := by
  simp only [Bool.and_eq_true, beq_iff_eq, Bool.not_eq_true'] at hr
  obtain ⟨⟨⟨⟨⟨⟨h1, h2⟩, h3⟩, h4⟩, h5⟩, h6⟩, h7⟩ := hr
  have hij : i ≠ j := fun e => by subst e; simp at h4
  have hdd : di ≠ dj := fun e => by subst e; simp at h5
  refine tail_cons [i, j] (by simp [h1]) ⟨⟨_, hoi, rfl, ?_⟩, ⟨_, hoj, rfl, ?_⟩, trivial⟩
  · refine s_allocG di h6 hzi li hli fun bi => ⟨hs.cons hqi, ?_⟩
    refine tail_one j (by simp [h2]) hoj rfl ?_
    refine s_allocG dj h7 hzj lj hlj fun bj => ⟨(hs.cons hqi).cons hqj, k bi bj⟩
  · refine s_allocG dj h7 hzj lj hlj fun bj => ⟨hs.cons hqj, ?_⟩
    refine tail_one i (by simp [h3]) hoi rfl ?_
    refine s_allocG di h6 hzi li hli fun bi => ⟨(hs.cons hqj).cons hqi, ?_⟩
    rw [Array.setIfInBounds_comm _ _ (Ne.symm hij)]
    exact Tail.weaken hK (swap_look hdd) (swap_look hdd) (k bi bj)
end
end Go.NP

/-
  The begin and the end of a walk; whole numbers within bounds.
-/
namespace Go.NP
open Go Go.RowKit

section
variable {P : Program} {w0 : World} {M : List Nat} {N : Nat} {D : Dfr} {T : TL} {L : HL} {Q : Exit → Act → World → Prop}

theorem at_then {y : Code} (h : CW P w0 M N D y T L Q) : At w0 M N D (Exit.then (y.wpIn (fw D.r) 0 P Q) Q) .normal T L := h

theorem subl_cons {ids : List Nat} {i : Nat} {x : Nat × Obj} {L' : HL} (h : inL ids i = true) (k : SubL (without L ids) L') : SubL (without L ids) ((i, x) :: L') :=
  SubL.cons k (by rw [look_without, h]; rfl)

def Subs {α : Type} : List (Nat × α) → List (Nat × α) → Prop
  | [], _ => True
  | (k, v) :: r, T => look T k = some v ∧ Subs r T
theorem subs {α : Type} : ∀ {T' T : List (Nat × α)}, Subs T' T → ∀ i x, look T' i = some x → look T i = some x
  | [], _, _, i, x, h => by simp [look] at h
  | (k, v) :: r, T, hs, i, x, h => by
    rw [look_cons] at h
    split at h
    · rename_i e; subst e; cases h; exact hs.1
    · exact subs hs.2 i x h

theorem at_round {S : Type} {TS : S → TL} {LS : S → HL} {I : S → Prop} {μ : S → Nat} {s : S} (s' : S) (hI : I s') (hμ : μ s' < μ s) (hT : ∀ i x, look (TS s') i = some x → look T i = some x) (hL : ∀ i x, look (LS s') i = some x → look L i = some x) :
    At w0 M N D (Exit.then (fun a w => ∃ s', I s' ∧ μ s' < μ s ∧ Fr N D a (TS s') ∧ St w0 M w (LS s')) Q) .normal T L :=
  fun _ _ ha hw => ⟨s', hI, hμ, ha.weaken hT, hw.weaken hL⟩

/-! ## Results -/
def RVs (P : Program) (T : TL) (L : HL) : List ResultVar → List Value → Prop
  | [], [] => True
  | .tmp t :: r, v :: vs => look T t = some v ∧ RVs P T L r vs
  | .cell t ty :: r, v :: vs => (∃ i b l e fz, look T t = some (.pointer (some ⟨b, 0, none⟩)) ∧ look L i = some (b, .cells l e fz) ∧ ((Agg P ty l.size ∧ v = .agg l) ∨ (OneT P ty ∧ l[0]? = some v))) ∧ RVs P T L r vs
  | _, _ => False

theorem rv_nil : RVs P T L [] [] := trivial
theorem rv_tmp {t : Tmp} {r : List ResultVar} {v : Value} {vs : List Value} (h : look T t = some v) (k : RVs P T L r vs) : RVs P T L (.tmp t :: r) (v :: vs) := ⟨h, k⟩
theorem rv_agg (i : Nat) {t : Tmp} {ty : TypeId} {s b : Nat} {l : List Value} {e : TypeId} {fz : Nat × Nat} {r : List ResultVar} {vs : List Value} (hA : Agg P ty s) (h : look T t = some (.pointer (some ⟨b, 0, none⟩))) (hl : look L i = some (b, .cells l.toArray e fz)) (hs : l.length = s) (k : RVs P T L r vs) :
    RVs P T L (.cell t ty :: r) (.agg l.toArray :: vs) := ⟨⟨i, b, _, e, fz, h, hl, .inl ⟨by simpa [hs] using hA, rfl⟩⟩, k⟩
theorem rv_one (i : Nat) {t : Tmp} {ty : TypeId} {b : Nat} {l : List Value} {v : Value} {e : TypeId} {fz : Nat × Nat} {r : List ResultVar} {vs : List Value} (hO : OneT P ty) (h : look T t = some (.pointer (some ⟨b, 0, none⟩))) (hl : look L i = some (b, .cells l.toArray e fz)) (hv : l[0]? = some v) (k : RVs P T L r vs) :
    RVs P T L (.cell t ty :: r) (v :: vs) := ⟨⟨i, b, _, e, fz, h, hl, .inr ⟨hO, by simpa using hv⟩⟩, k⟩

def tup : List Value → Value
  | [v] => v
  | vs => .tuple vs.toArray

def rvSem (tmps : Array Value) : ResultVar → Sem Value
  | .tmp t => pure (tmps.getD t undef)
  | .cell x t => do loadVar t (← asAddr (tmps.getD x undef))
theorem results_eq (fn : Func) (tmps : Array Value) : results fn tmps = (do let vs ← fn.results.mapM (rvSem tmps); pure (if h : vs.size = 1 then vs[0] else .tuple vs)) := by
  unfold results
  congr 2

theorem run_resultVars {a : Act} {w : World} (ha : Fr N D a T) (hw : St w0 M w L) : ∀ (rs : List ResultVar) (vs : List Value), RVs P T L rs vs →
    (rs.mapM (rvSem a.tmps)).run P w = .ok vs w
  | [], [], _ => by simp
  | .tmp t :: r, v :: vs, h => by
    have h1 := ha.tm _ _ h.1
    have ih := run_resultVars ha hw r vs h.2
    have h2 : (rvSem a.tmps (.tmp t)).run P w = .ok v w := by simp [rvSem, h1]
    simp only [List.mapM_cons, Sem.run_bind, Sem.run_pure, Result.andThen_ok, h2, ih]
  | .cell t ty :: r, v :: vs, h => by
    obtain ⟨⟨i, b, l, e, fz, h1, h2, h3⟩, h4⟩ := h
    have h1 := ha.tm _ _ h1
    have hb := (hw.known i b _ h2).1
    have ih := run_resultVars ha hw r vs h4
    have hl : (loadVar ty ⟨b, 0, none⟩).run P w = .ok v w := by
      rcases h3 with ⟨hA, rfl⟩ | ⟨hO, hv⟩
      · have hp : Part l.toList 0 l.size l.toList := Part.whole (by simp)
        have := run_loadAt_agg (P := P) (t := ty) hA (w := w) (b := b) (l := l.toList) (e := e) (fz := fz) (by simpa using hb) hp
        simpa [Instr.loadAt, Instr.sureAddr] using this
      · have := run_loadAt_one (P := P) (t := ty) (v := v) hO (w := w) (b := b) (off := 0) (l := l.toList) (e := e) (fz := fz) (by simpa using hb) (by simpa using hv)
        simpa [Instr.loadAt, Instr.sureAddr] using this
    have h2 : (rvSem a.tmps (.cell t ty)).run P w = .ok v w := by
      have e : a.tmps.getD t undef = .pointer (some ⟨b, 0, none⟩) := by simp [h1]
      simp only [rvSem, e, asAddr, Sem.run_bind, Sem.run_pure, Result.andThen_ok, hl]
    simp only [List.mapM_cons, Sem.run_bind, Sem.run_pure, Result.andThen_ok, h2, ih]
  | [], _ :: _, h => h.elim
  | .tmp _ :: _, [], h => h.elim
  | .cell _ _ :: _, [], h => h.elim

theorem run_results {fn : Func} {a : Act} {w : World} {vs : List Value} (ha : Fr N D a T) (hw : St w0 M w L) (h : RVs P T L fn.results.toList vs) : (results fn a.tmps).run P w = .ok (tup vs) w := by
  have h1 := run_resultVars ha hw _ _ h
  have e : fn.results = fn.results.toList.toArray := by simp
  rw [results_eq, e, List.mapM_toArray]
  simp only [Sem.run_bind, map_eq_pure_bind, h1, Result.andThen_ok, Sem.run_pure]
  congr 1
  cases vs with
  | nil => simp [tup]
  | cons v vs => cases vs with
    | nil => simp [tup]
    | cons u vs => simp [tup]

theorem at_ret {fn : Func} {R : Ending → World → Prop} {rs : List ResultVar} {vs : List Value} (hr : fn.results.toList = rs) (h : RVs P T L rs vs) (hR : ∀ w, St w0 M w L → R (.returned (tup vs)) w) : At w0 M N D0 (bodyPost P fn R) .ret T L :=
  fun _ w ha hw => ⟨ha.defers, tup vs, run_results ha hw (hr ▸ h), hR w hw⟩
theorem at_end {fn : Func} {R : Ending → World → Prop} {rs : List ResultVar} {vs : List Value} (hr : fn.results.toList = rs) (h : RVs P T L rs vs) (hR : ∀ w, St w0 M w L → R (.returned (tup vs)) w) : At w0 M N D0 (bodyPost P fn R) .normal T L :=
  fun _ w ha hw => ⟨ha.defers, tup vs, run_results ha hw (hr ▸ h), hR w hw⟩

/-- The end of a function that only reckons. -/
theorem ret_pure {fn : Func} {rs : List ResultVar} {vs : List Value} {v : Value} (hr : fn.results.toList = rs) (h : RVs P T L rs vs) (hv : tup vs = v) : At w0 [] N D0 (bodyPost P fn fun e w' => e = .returned v ∧ Below w0.heap.size w0 w') .ret T L :=
  at_ret hr h fun _ hw => ⟨by rw [hv], hw.below⟩

theorem end_pure {fn : Func} {rs : List ResultVar} {vs : List Value} {v : Value} (hr : fn.results.toList = rs) (h : RVs P T L rs vs) (hv : tup vs = v) : At w0 [] N D0 (bodyPost P fn fun e w' => e = .returned v ∧ Below w0.heap.size w0 w') .normal T L :=
  at_end hr h fun _ hw => ⟨by rw [hv], hw.below⟩

/-- A callee has turned one known block. -/
theorem St.call1 {w w' : World} {i b k : Nat} {o o' : Obj} (h : St w0 M w L) (hl : look L i = some (b, o)) (hw : St w [b] w' [(k, (b, o'))]) : St w0 M w' ((i, (b, o')) :: L) :=
  h.set hl ⟨hw.os, hw.tape, hw.output, hw.size⟩ (fun j hj hne => hw.old j hj (by simpa using hne)) ((hw.known k b o' (by simp [look_cons])).1)

/-- A call that turns one known block, and hands back v. -/
theorem s_callUpd (i : Nat) {d : Nat} {x : Operand} {args : Array Operand} {ts : Array TypeId} {f : FuncId} {fs cs : Array Value} {vs : List Value} {t : TypeId} {p : String} {af : Array Edge} {g : Option (Nat × Bool)} {K : TL → HL → Prop} {Q : Exit → Act → World → Prop} {b k : Nat} {o o' : Obj} {v : Value}
    (he : Ent P f) (hN : Nat.blt d N = true) (hx : ev T x = some (.func (.func f) fs cs)) (hv : evs T args.toList = some vs) (hl : look L i = some (b, o))
    (h : ∀ w, w.heap[b]? = some o → Calls P f (fs ++ vs.toArray ++ cs) w fun e w' => e = .returned v ∧ St w [b] w' [(k, (b, o'))])
    (kk : K ((d, v) :: T) ((i, (b, o')) :: L)) :
    Step P w0 M N D { dst := some d, op := .call { callee := .value x, args := args, argTypes := ts }, type := t, pos := p, after := af, guard := g } T L K Q :=
  s_call he hN hx hv fun w hw => (h w (hw.known i b o hl).1).mono fun _ _ ⟨h1, h2⟩ => ⟨v, _, h1, hw.call1 hl h2, kk⟩

/-- A call that the model answers by itself. -/
theorem q_ext {d : Option Tmp} {x : Operand} {args : Array Operand} {ts : Array TypeId} {f : FuncId} {vs : List Value} {v : Value} {t : TypeId} {p : String} {af : Array Edge} {g : Option (Nat × Bool)}
    (hx : ev T x = some (.func (.func f) #[] #[])) (hv : evs T args.toList = some vs) (h : ∀ w, (callFunc f vs.toArray).run P w = .ok (.value v) w) :
    Quiet P w0 M N D { dst := d, op := .call { callee := .value x, args := args, argTypes := ts }, type := t, pos := p, after := af, guard := g } T L v :=
  q_run fun a w ha _ => by
    have e1 : args.map a.eval = vs.toArray := by rw [← ha.evs hv]; simp [← Array.toList_map]
    simp [execOp, resolve, ha.ev hx, e1, Deferred.ofValue, invoke, h w]

/-! ## The begin -/
def enum : Nat → List Value → TL
  | _, [] => []
  | k, v :: r => (k, v) :: enum (k + 1) r
theorem look_enum : ∀ (l : List Value) (k i : Nat) (v : Value), look (enum k l) i = some v → k ≤ i ∧ l[i - k]? = some v
  | [], _, _, _, h => by simp [enum, look] at h
  | u :: r, k, i, v, h => by
    simp only [enum] at h
    rw [look_cons] at h
    split at h
    · rename_i e; subst e; cases h; simp
    · rename_i e
      obtain ⟨h1, h2⟩ := look_enum r (k + 1) i v h
      refine ⟨by omega, ?_⟩
      rw [show i - k = (i - (k + 1)) + 1 by omega]
      simpa using h2

theorem calls_of {f : FuncId} {fn : Func} {c : Code} {args : List Value} {w : World} {R : Ending → World → Prop} {M : List Nat} {L : HL} (hf : P.funcs[f]? = some fn) (hb : fn.body = some c) (hn : fn.ntmps = N) (hl : Nat.ble args.length N = true)
    (hw : St w M w L) (h : CW P w M N D0 c (enum 0 args) L (bodyPost P fn R)) : Calls P f args.toArray w R := by
  have hl' : args.length ≤ N := by simpa using hl
  refine calls_of_wp hf hb (wpIn_wide.1 (h _ w ⟨?_, rfl, fun k v hv => ?_⟩ hw))
  · simp only [List.size_toArray, hn, Array.size_append, Array.size_replicate]; omega
  · obtain ⟨_, h2⟩ := look_enum args 0 k v hv
    simp only [Nat.sub_zero] at h2
    have hk : k < args.length := (List.getElem?_eq_some_iff.1 h2).1
    rw [Array.getElem?_append_left (by simpa using hk)]
    simpa using h2

theorem pure_of {f : FuncId} {fn : Func} {c : Code} {args : List Value} {v : Value} (hf : P.funcs[f]? = some fn) (hb : fn.body = some c) (hn : fn.ntmps = N) (hl : Nat.ble args.length N = true)
    (h : ∀ w, CW P w [] N D0 c (enum 0 args) [] (bodyPost P fn fun e w' => e = .returned v ∧ Below w.heap.size w w')) : PureF P f args v :=
  fun w => calls_of hf hb hn hl (St.start w) (h w)

/-! ## Whole numbers -/
theorem add64 {a b : Int} (h0 : -9223372036854775808 ≤ a + b) (h1 : a + b ≤ 9223372036854775807) : binI .add .i64 a .i64 b = some (.int .i64 (a + b)) := by
  simp only [binI, if_true, IntWalk.i64_in _ ⟨h0, h1⟩]
theorem sub64 {a b : Int} (h0 : -9223372036854775808 ≤ a - b) (h1 : a - b ≤ 9223372036854775807) : binI .sub .i64 a .i64 b = some (.int .i64 (a - b)) := by
  simp only [binI, if_true, IntWalk.i64_in _ ⟨h0, h1⟩]
theorem mul64 {a b : Int} (h0 : -9223372036854775808 ≤ a * b) (h1 : a * b ≤ 9223372036854775807) : binI .mul .i64 a .i64 b = some (.int .i64 (a * b)) := by
  simp only [binI, if_true, IntWalk.i64_in _ ⟨h0, h1⟩]
theorem quo64 {a b : Int} (h0 : 0 ≤ a) (h1 : a ≤ 9223372036854775807) (hb : 1 ≤ b) : binI .quo .i64 a .i64 b = some (.int .i64 (a / b)) := by
  simp only [binI]
  rw [if_pos ⟨trivial, by omega⟩, IntWalk.i64_quo a b ⟨h0, h1, hb⟩]
theorem rem64 {a b : Int} (h0 : 0 ≤ a) (_h1 : a ≤ 9223372036854775807) (hb : 1 ≤ b) : binI .rem .i64 a .i64 b = some (.int .i64 (a % b)) := by
  simp only [binI]
  rw [if_pos ⟨trivial, by omega⟩, Int.tmod_eq_emod_of_nonneg h0]
end
end Go.NP

/-
  More of the logic: where ways meet.
-/
namespace Go.NP
open Go Go.RowKit
section
variable {P : Program} {w0 : World} {M : List Nat} {N : Nat} {D : Dfr} {T : TL} {L : HL} {Q : Exit → Act → World → Prop}
/-- Where ways meet: what is known there is told by a state. -/
theorem cw_join {S : Type} {x y : Code} (TS : S → TL) (LS : S → HL) (I : S → Prop) (h1 : CW P w0 M N D x T L (Exit.then (fun a w => ∃ s, I s ∧ Fr N D a (TS s) ∧ St w0 M w (LS s)) Q))
    (h2 : ∀ s, I s → CW P w0 M N D y (TS s) (LS s) Q) : CW P w0 M N D (.seq x y) T L Q :=
  cw_seq fun a w ha hw b k cs hro hb hr => by
    obtain ⟨e, a', w', hq, harr⟩ := h1 a w ha hw b k cs hro hb hr
    refine ⟨e, a', w', ?_, harr⟩
    cases e with
    | normal => obtain ⟨s, hI, ha1, hw1⟩ := hq; exact h2 s hI a' w' ha1 hw1
    | exit id => exact hq
    | goto l => exact hq
    | ret => exact hq
    | panic ch => exact hq
    | outgrown => exact hq
theorem at_join {S : Type} {TS : S → TL} {LS : S → HL} {I : S → Prop} (s : S) (hI : I s) (hT : ∀ i x, look (TS s) i = some x → look T i = some x) (hL : ∀ i x, look (LS s) i = some x → look L i = some x) :
    At w0 M N D (fun _ a w => ∃ s, I s ∧ Fr N D a (TS s) ∧ St w0 M w (LS s)) .normal T L :=
  fun _ _ ha hw => ⟨s, hI, ha.weaken hT, hw.weaken hL⟩
theorem cw_meet {x : Code} (TS : Unit → TL) (LS : Unit → HL) (h1 : CW P w0 M N D x T L (Exit.then (fun a w => ∃ s : Unit, True ∧ Fr N D a (TS s) ∧ St w0 M w (LS s)) Q))
    (h2 : At w0 M N D Q .normal (TS ()) (LS ())) : CW P w0 M N D x T L Q :=
  fun a w ha hw b k cs hro hb hr => by
    obtain ⟨e, a', w', hq, harr⟩ := h1 a w ha hw b k cs hro hb hr
    refine ⟨e, a', w', ?_, harr⟩
    cases e with
    | normal => obtain ⟨s, _, ha1, hw1⟩ := hq; exact h2 a' w' ha1 hw1
    | exit id => exact hq
    | goto l => exact hq
    | ret => exact hq
    | panic ch => exact hq
    | outgrown => exact hq
/-- A scope, through which it goes straight. -/
theorem cw_scope {c : Code} {d : List Deferred} (h : CW P w0 M N ⟨d, none⟩ c T L (Exit.noGoto Q)) : CW P w0 M N ⟨d, none⟩ (.scope c) T L Q :=
  fun a w ha hw => wpIn_wide.2 (wp_scope_straight (wpIn_wide.1 (h a w ha hw)))
/-- A scope in which it may jump to one label, behind which it goes straight. -/
theorem cw_scope_jump {S : Type} {c rest : Code} {d : List Deferred} (l : Nat) (TS : S → TL) (LS : S → HL) (I : S → Prop) (hf : findLabel c l = some rest)
    (h1 : CW P w0 M N ⟨d, none⟩ c T L (Exit.jump l (fun a w => ∃ s, I s ∧ Fr N ⟨d, none⟩ a (TS s) ∧ St w0 M w (LS s)) Q)) (h2 : ∀ s, I s → CW P w0 M N ⟨d, none⟩ rest (TS s) (LS s) (Exit.noGoto Q)) : CW P w0 M N ⟨d, none⟩ (.scope c) T L Q :=
  fun a w ha hw => wpIn_wide.2 (wp_scope_jumps l _ (fun _ _ => 0) hf (wpIn_wide.1 (h1 a w ha hw)) fun a' w' ⟨s, hI, hf', hs⟩ => wpIn_wide.1 (wpIn_mono (h2 s hI a' w' hf' hs) fun e a w hq => by
    cases e with
    | goto l' => exact hq.elim
    | normal => exact hq
    | exit id => exact hq
    | ret => exact hq
    | panic c => exact hq
    | outgrown => exact hq))
theorem at_goto {S : Type} {l : Nat} {TS : S → TL} {LS : S → HL} {I : S → Prop} (s : S) (hI : I s) (hT : ∀ i x, look (TS s) i = some x → look T i = some x) (hL : ∀ i x, look (LS s) i = some x → look L i = some x) :
    At w0 M N D (Exit.jump l (fun a w => ∃ s, I s ∧ Fr N D a (TS s) ∧ St w0 M w (LS s)) Q) (.goto l) T L :=
  fun _ _ ha hw => ⟨rfl, s, hI, ha.weaken hT, hw.weaken hL⟩
end
end Go.NP

/-
  A range over a function: the statement, its rounds, the function that is ranged over.
-/
namespace Go.NP
open Go Go.RowKit

/-! ## A walk within a walk -/
def blocks : HL → List Nat
  | [] => []
  | p :: r => p.2.1 :: blocks r
def inIds : HL → Nat → Bool
  | [], _ => false
  | p :: r, i => bif Nat.beq p.1 i then true else inIds r i
/-- No id stands twice, all are small. -/
def okL : HL → Bool
  | [] => true
  | p :: r => !inIds r p.1 && Nat.blt p.1 1000 && okL r
/-- All ids are great. -/
def bigL : HL → Bool
  | [] => true
  | p :: r => Nat.ble 1000 p.1 && bigL r

theorem inIds_look : ∀ {L : HL} {i : Nat} {x : Nat × Obj}, look L i = some x → inIds L i = true
  | [], _, _, h => by simp [look] at h
  | (k, v) :: r, i, x, h => by
    rw [look_cons] at h
    simp only [inIds]
    by_cases hk : k = i
    · subst hk; simp
    · rw [if_neg hk] at h; rw [inIds_look h]; cases Nat.beq k i <;> rfl
theorem okL_small : ∀ {L : HL} {i : Nat} {x : Nat × Obj}, okL L = true → look L i = some x → i < 1000
  | [], _, _, _, h => by simp [look] at h
  | (k, v) :: r, i, x, hk, h => by
    simp only [okL, Bool.and_eq_true] at hk
    rw [look_cons] at h
    split at h
    · rename_i e; subst e; simpa [Nat.blt_eq] using hk.1.2
    · exact okL_small hk.2 h
theorem bigL_great : ∀ {L : HL} {i : Nat} {x : Nat × Obj}, bigL L = true → look L i = some x → 1000 ≤ i
  | [], _, _, _, h => by simp [look] at h
  | (k, v) :: r, i, x, hk, h => by
    simp only [bigL, Bool.and_eq_true] at hk
    rw [look_cons] at h
    split at h
    · rename_i e; subst e; exact Nat.le_of_ble_eq_true hk.1
    · exact bigL_great hk.2 h
theorem blocks_look : ∀ {L : HL}, okL L = true → ∀ k ∈ blocks L, ∃ i o, look L i = some (k, o)
  | [], _, k, h => by simp [blocks] at h
  | (i, (b, o)) :: r, hk, k, h => by
    simp only [okL, Bool.and_eq_true, Bool.not_eq_true'] at hk
    simp only [blocks, List.mem_cons] at h
    rcases h with rfl | h
    · exact ⟨i, o, by rw [look_cons, if_pos rfl]⟩
    · obtain ⟨j, p, hj⟩ := blocks_look hk.2 k h
      refine ⟨j, p, ?_⟩
      rw [look_cons, if_neg]
      · exact hj
      · rintro rfl
        have := inIds_look hj
        rw [hk.1.1] at this; cases this
theorem look_blocks : ∀ {L : HL} {i b : Nat} {o : Obj}, look L i = some (b, o) → b ∈ blocks L
  | [], _, _, _, h => by simp [look] at h
  | (k, v) :: r, i, b, o, h => by
    rw [look_cons] at h
    split at h
    · cases h; simp [blocks]
    · simp [blocks, look_blocks h]
theorem look_append : ∀ (A B : HL) (i : Nat), look (A ++ B) i = match look A i with | some x => some x | none => look B i
  | [], B, i => by simp [look]
  | (k, v) :: r, B, i => by
    rw [List.cons_append, look_cons, look_cons, look_append r B i]
    split <;> rfl

section
variable {w0 W W' : World} {M : List Nat} {Lo Lt Lt' L : HL}
theorem sub_right (ho : bigL Lo = true) (ht : okL Lt = true) : SubL Lt (Lo ++ Lt) := fun i x h => by
  rw [look_append]
  cases hl : look Lo i with
  | none => exact h
  | some y => have := bigL_great ho hl; have := okL_small ht h; omega
theorem sub_left : SubL Lo (Lo ++ Lt) := fun i x h => by rw [look_append, h]
/-- A walk of its own, of what is known. -/
theorem St.within (h : St w0 M W L) : St W (blocks L) W L :=
  ⟨rfl, rfl, rfl, Nat.le_refl _, fun _ _ _ => rfl, fun i b o hl => ⟨(h.known i b o hl).1, .inr (look_blocks hl)⟩, h.apart⟩
/-- What it comes to for the one around it. -/
theorem St.comp (h : St w0 M W (Lo ++ Lt)) (ho : bigL Lo = true) (ht : okL Lt = true) (_ht' : okL Lt' = true) (h' : St W (blocks Lt) W' Lt') : St w0 M W' (Lo ++ Lt') := by
  have hb : ∀ k ∈ blocks Lt, w0.heap.size ≤ k ∨ k ∈ M := fun k hk => by
    obtain ⟨i, o, hi⟩ := blocks_look ht k hk
    exact (h.known i k o (sub_right ho ht i _ hi)).2
  have hob : ∀ i b o, look Lo i = some (b, o) → b ∉ blocks Lt := fun i b o hl hk => by
    obtain ⟨j, p, hj⟩ := blocks_look ht b hk
    have h1 := bigL_great ho hl
    have h2 := okL_small ht hj
    exact h.apart i j b o b p (sub_left i _ hl) (sub_right ho ht j _ hj) (by omega) rfl
  refine ⟨h'.os.trans h.os, h'.tape.trans h.tape, h'.output.trans h.output, Nat.le_trans h.size h'.size, fun k hk hM => ?_, fun i b o hl => ?_, fun i j b o c p h1 h2 hne => ?_⟩
  · rw [h'.old k (Nat.lt_of_lt_of_le hk h.size) (fun hm => by rcases hb k hm with h1 | h1; omega; exact hM h1)]
    exact h.old k hk hM
  · rw [look_append] at hl
    split at hl
    · rename_i x hx
      cases hl
      obtain ⟨h1, h2⟩ := h.known i b o (sub_left i _ hx)
      exact ⟨(h'.old b (h.lt (sub_left i _ hx)) (hob i b o hx)).trans h1, h2⟩
    · obtain ⟨h1, h2⟩ := h'.known i b o hl
      refine ⟨h1, ?_⟩
      rcases h2 with h2 | h2
      · have := h.size; exact .inl (by omega)
      · exact hb b h2
  · rw [look_append] at h1 h2
    split at h1
    · rename_i x hx
      cases h1
      split at h2
      · rename_i y hy
        cases h2
        exact h.apart i j b o c p (sub_left i _ hx) (sub_left j _ hy) hne
      · rintro rfl
        rcases (h'.known j b p h2).2 with hk | hk
        · have := h.lt (sub_left i _ hx); omega
        · exact hob i b o hx hk
    · split at h2
      · rename_i y hy
        cases h2
        rintro rfl
        rcases (h'.known i b o h1).2 with hk | hk
        · have := h.lt (sub_left j _ hy); omega
        · exact hob j b p hy hk
      · exact h'.apart i j b o c p h1 h2 hne
end

/-! ## The function that is ranged over -/
/-- What a round comes to: b says whether it goes on. -/
def Rnd (J Jx : HL → Prop) (W : World) (Lt : HL) : Ending → World → Prop := fun e W' => ∃ b Lt', e = .returned (.bool b) ∧ okL Lt' = true ∧ St W (blocks Lt) W' Lt' ∧ (if b then J Lt' else Jx Lt')
/-- The rounds: at each number of those that are over. -/
def Rounds (P : Program) (w0 : World) (M : List Nat) (l : Nat) (xs : List (List Value)) (J : Nat → HL → Prop) (Jx : HL → Prop) : Prop :=
  ∀ i x, xs[i]? = some x → ∀ Lt, J i Lt → okL Lt = true → ∀ W, St w0 M W Lt → YieldAt (fw none) 0 P l x.toArray W (Rnd (J (i + 1)) Jx W Lt)
/-- A function that hands these to yield, one by one. Need: what memory it reads. -/
def Iter (P : Program) (f : FuncId) (lb : List Value) (xs : List (List Value)) (Need : HL → Prop) : Prop :=
  ∀ w0 M l (J : Nat → HL → Prop) (Jx : HL → Prop), (∀ i Lt, J i Lt → Need Lt) → Rounds P w0 M l xs J Jx → ∀ Lt W, J 0 Lt → okL Lt = true → St w0 M W Lt →
    Calls P f (Value.func (.yield l) #[] #[] :: lb).toArray W fun e W' => (∃ v, e = .returned v) ∧ ∃ Lt', okL Lt' = true ∧ St w0 M W' Lt' ∧ (J xs.length Lt' ∨ Jx Lt')

section
variable {P : Program} {w0 : World} {M : List Nat} {N : Nat} {D : Dfr} {T : TL} {L : HL} {Q : Exit → Act → World → Prop}
/-- A call of yield. -/
theorem s_yield {d : Nat} {x : Operand} {args : Array Operand} {ts : Array TypeId} {l : Nat} {vs : List Value} {t : TypeId} {p : String} {af : Array Edge} {g : Option (Nat × Bool)} {K : TL → HL → Prop} {Q : Exit → Act → World → Prop}
    {J Jx : HL → Prop} (Lo Lt : HL) (hN : Nat.blt d N = true) (hx : ev T x = some (.func (.yield l) #[] #[])) (hv : evs T args.toList = some vs) (ho : bigL Lo = true) (ht : okL Lt = true)
    (hY : ∀ W, St w0 M W Lt → YieldAt (fw none) 0 P l vs.toArray W (Rnd J Jx W Lt))
    (k : ∀ b Lt', okL Lt' = true → (if b then J Lt' else Jx Lt') → K ((d, .bool b) :: T) (Lo ++ Lt')) :
    Step P w0 M N D { dst := some d, op := .call { callee := .value x, args := args, argTypes := ts }, type := t, pos := p, after := af, guard := g } T (Lo ++ Lt) K Q := by
  intro a w ha hw
  obtain ⟨fn, tmps, assign, body, hy, hR⟩ := hY w (hw.weaken (sub_right ho ht))
  refine ⟨fun _ _ => trivial, ?_⟩
  have e1 : args.map a.eval = vs.toArray := by rw [← ha.evs hv]; simp [← Array.toList_map]
  have hr : (execOp a.eval { dst := some d, op := .call { callee := .value x, args := args, argTypes := ts }, type := t, pos := p, after := af, guard := g }).run P w = .ok (.round l fn tmps assign body) w := by
    simp [execOp, resolve, ha.ev hx, e1, Deferred.ofValue, invoke, hy]
  rw [Oper.semAt_eq _ _ _ (fun c h => by cases h), hr]
  refine ⟨fun hd => (nomatch (hd : false = true)), ?_⟩
  refine RoundIn.mono hR fun e W' ⟨b, Lt', he, hk', hs, hb⟩ => ?_
  subst he
  exact ⟨_, _, ha.put (by simpa [Nat.blt_eq] using hN) _, hw.comp ho ht hk' hs, k b Lt' hk' hb⟩

/-- A call's walk, in whatever context. -/
theorem calls_at {f : FuncId} {fn : Func} {c : Code} {args : List Value} {w : World} {R : Ending → World → Prop} (hf : P.funcs[f]? = some fn) (hb : fn.body = some c) (hn : fn.ntmps = N) (hl : Nat.ble args.length N = true)
    (hw : St w0 M w L) (h : CW P w0 M N D0 c (enum 0 args) L (bodyPost P fn R)) : Calls P f args.toArray w R := by
  have hl' : args.length ≤ N := by simpa using hl
  refine calls_of_wp hf hb (wpIn_wide.1 (h _ w ⟨?_, rfl, fun k v hv => ?_⟩ hw))
  · simp only [List.size_toArray, hn, Array.size_append, Array.size_replicate]; omega
  · obtain ⟨_, h2⟩ := look_enum args 0 k v hv
    simp only [Nat.sub_zero] at h2
    have hk : k < args.length := (List.getElem?_eq_some_iff.1 h2).1
    rw [Array.getElem?_append_left (by simpa using hk)]
    simpa using h2

/-! ## The statement -/
def zipT : List Tmp → List Value → TL → TL
  | p :: ps, v :: vs, T => zipT ps vs ((p, v) :: T)
  | _, _, T => T
theorem fr_zip {r : Option Nat} : ∀ (ps : List Tmp) (vs : List Value) (tm : Array Value) (T : TL), (∀ p ∈ ps, p < N) → Fr N ⟨[], r⟩ { tmps := tm, defers := [] } T →
    Fr N ⟨[], r⟩ { tmps := (ps.zip vs).foldl (fun t (p, v) => t.setIfInBounds p v) tm, defers := [] } (zipT ps vs T)
  | [], _, _, _, _, h => h
  | _ :: _, [], _, _, _, h => h
  | p :: ps, v :: vs, tm, T, hp, h => fr_zip ps vs _ _ (fun q hq => hp q (by simp [hq])) (h.put (d := p) (hp p (by simp)) v)

/-- What is asked behind the assignments to the loop's variables. -/
def Begun (P : Program) (l : Nat) (body : Code) (Q : Exit → Act → World → Prop) : Exit → Act → World → Prop :=
  Exit.then (fun a₁ w₁ => ∃ w₂, (Instr.beginRound l).run P w₁ = .ok () w₂ ∧ body.wpIn (fw (some l)) 0 P Q a₁ w₂) (fun _ _ _ => False)
theorem St.putObj {w : World} {i b : Nat} {o : Obj} (o' : Obj) (h : St w0 M w L) (hl : look L i = some (b, o)) : St w0 M (w.putObj b o') ((i, (b, o')) :: L) :=
  h.set hl ⟨rfl, rfl, rfl, by simp⟩ (fun k _ hk => World.putObj_heap_other hk) (World.putObj_heap_same (h.lt hl))
theorem at_begin {l i : Nat} {rc : Loop} {body : Code} {D : List Deferred} (hl : look L i = some (l, .loop rc)) (hr : rc.state = .ready) (k : CW P w0 M N ⟨D, some l⟩ body T ((i, (l, .loop { rc with state := .busy })) :: L) Q) :
    At w0 M N ⟨D, some l⟩ (Begun P l body Q) .normal T L := fun a _ ha hw =>
  ⟨_, run_beginRound (hw.known i l _ hl).1 hr, k a _ ha (hw.putObj _ hl)⟩

/-- The loop's record and the block for deferred calls. -/
def recL (l nD : Nat) (rc : Loop) (L : HL) : HL := (900, (l, .loop rc)) :: (901, (nD, .deferred (some []))) :: L
def okR (L : HL) : Bool := okL L && !inIds L 900 && !inIds L 901
theorem okL_recL {l nD : Nat} {rc : Loop} (h : okR L = true) : okL (recL l nD rc L) = true := by
  simp only [okR, Bool.and_eq_true, Bool.not_eq_true'] at h
  simp only [recL, okL, inIds, h.1.1, h.1.2, h.2]
  rfl
/-- Between rounds, and where one has left. -/
def RJ (l nD : Nat) (rc : Loop) (J : Nat → HL → Prop) : Nat → HL → Prop := fun i Lt => ∃ Lc, J i Lc ∧ Lt = recL l nD { rc with state := .ready, pending := none } Lc
def RX (l nD : Nat) (rc : Loop) (Jx : Code → HL → Prop) : HL → Prop := fun Lt => ∃ c Lc, Jx c Lc ∧ Lt = recL l nD { rc with state := .done, pending := some c } Lc

theorem recL_swap {l nD : Nat} {o o' : Obj} {L Lc : HL} (h : SubL ((900, (l, o)) :: (901, (nD, .deferred (some []))) :: Lc) L) : SubL ((900, (l, o')) :: (901, (nD, .deferred (some []))) :: Lc) ((900, (l, o')) :: L) := fun i x hx => by
  rw [look_cons] at hx ⊢
  split
  · rename_i e; rw [if_pos e] at hx; exact hx
  · rename_i e
    rw [if_neg e] at hx
    exact h i x (by rw [look_cons, if_neg e]; exact hx)

section rounds
variable {l nD : Nat} {rc : Loop} {J : Nat → HL → Prop} {Jx : Code → HL → Prop} {W : World} {Lt Lc : HL} {i : Nat}
/-- A round that goes on. -/
theorem at_yes {rc' : Loop} (Lc' : HL) (hJ : J (i + 1) Lc') (hok : okR Lc' = true) (hs : SubL (recL l nD rc' Lc') L) (hrc : ({ rc' with state := .ready, pending := none } : Loop) = { rc with state := .ready, pending := none }) :
    At W (blocks Lt) N D (roundPost P l (Rnd (RJ l nD rc J (i + 1)) (RX l nD rc Jx) W Lt)) .normal T L := fun a w _ hw =>
  ⟨_, _, run_endRound none (hw.known 900 l _ (hs 900 _ rfl)).1, true, recL l nD { rc' with state := .ready, pending := none } Lc', rfl, okL_recL hok, (hw.putObj _ (hs 900 _ rfl)).weaken (recL_swap hs), Lc', hJ, by rw [hrc]⟩
/-- A round that leaves by a return. -/
theorem at_no {rc' : Loop} (Lc' : HL) (hJ : Jx .ret Lc') (hok : okR Lc' = true) (hs : SubL (recL l nD rc' Lc') L) (hrc : ({ rc' with state := .done, pending := some .ret } : Loop) = { rc with state := .done, pending := some .ret }) :
    At W (blocks Lt) N D (roundPost P l (Rnd (RJ l nD rc J (i + 1)) (RX l nD rc Jx) W Lt)) .ret T L := fun a w _ hw =>
  ⟨_, _, run_endRound (some .ret) (hw.known 900 l _ (hs 900 _ rfl)).1, false, recL l nD { rc' with state := .done, pending := some .ret } Lc', rfl, okL_recL hok, (hw.putObj _ (hs 900 _ rfl)).weaken (recL_swap hs), .ret, Lc', hJ, by rw [hrc]⟩
/-- A round that leaves by an exit. -/
theorem at_break {rc' : Loop} {x : Nat} (Lc' : HL) (hJ : Jx (.exit x) Lc') (hok : okR Lc' = true) (hs : SubL (recL l nD rc' Lc') L) (hrc : ({ rc' with state := .done, pending := some (.exit x) } : Loop) = { rc with state := .done, pending := some (.exit x) }) :
    At W (blocks Lt) N D (roundPost P l (Rnd (RJ l nD rc J (i + 1)) (RX l nD rc Jx) W Lt)) (.exit x) T L := fun a w _ hw =>
  ⟨_, _, run_endRound (some (.exit x)) (hw.known 900 l _ (hs 900 _ rfl)).1, false, recL l nD { rc' with state := .done, pending := some (.exit x) } Lc', rfl, okL_recL hok, (hw.putObj _ (hs 900 _ rfl)).weaken (recL_swap hs), .exit x, Lc', hJ, by rw [hrc]⟩
end rounds

abbrev Dm (nD : Nat) : Dfr := ⟨[{ target := .collected nD, args := #[] }], none⟩

/-- 'for .. := range g { .. }', outermost. -/
theorem cw_range {g : Operand} {ps : List Tmp} {assign body : Code} {gf : FuncId} {lb : List Value} {xs : List (List Value)} {Need : HL → Prop} (J : Nat → HL → Prop) (Jx : Code → HL → Prop) (L0 : HL)
    (hg : ev T g = some (.func (.func gf) #[] lb.toArray)) (he : Ent P gf) (hIt : Iter P gf lb xs Need) (hps : ∀ x ∈ xs, x.length = ps.length) (hpN : (ps.all fun p => Nat.blt p N) = true)
    (hok : ∀ i Lc, J i Lc → okR Lc = true) (hNeed : ∀ i Lc a b, J i Lc → Need ((900, a) :: (901, b) :: Lc))
    (h0 : J 0 L0) (hL : SubL L0 L)
    (hround : ∀ l nD rc i x Lc, xs[i]? = some x → J i Lc → ∀ W, St w0 M W (recL l nD { rc with state := .ready, pending := none } Lc) →
      CW P W (blocks (recL l nD { rc with state := .ready, pending := none } Lc)) N ⟨[], some l⟩ assign (zipT ps x T) (recL l nD { rc with state := .ready, pending := none } Lc)
        (Begun P l body (roundPost P l (Rnd (RJ l nD rc J (i + 1)) (RX l nD rc Jx) W (recL l nD { rc with state := .ready, pending := none } Lc)))))
    (hdone : ∀ nD Lc, J xs.length Lc → At w0 M N (Dm nD) Q .normal T ((901, (nD, .deferred (some []))) :: Lc))
    (hstop : ∀ nD c Lc, Jx c Lc → CW P w0 M N (Dm nD) c T ((901, (nD, .deferred (some []))) :: Lc) Q) :
    CW P w0 M N D0 (.rangeFunc g ps.toArray assign body) T L Q := by
  intro a w ha hw
  refine wpIn_rangeFunc fun fn _ => ?_
  let rc : Loop := { state := .ready, pending := none, fn, tmps := a.tmps, params := ps.toArray, assign, body, defers := w.heap.size }
  have hw0 := (hw.weaken hL)
  have hne : ∀ i c p, look L0 i = some (c, p) → i ≠ 900 ∧ i ≠ 901 := fun i c p h => by
    have hr := hok 0 L0 h0
    simp only [okR, Bool.and_eq_true, Bool.not_eq_true'] at hr
    constructor
    · rintro rfl; rw [inIds_look h] at hr; cases hr.1.2
    · rintro rfl; rw [inIds_look h] at hr; cases hr.2
  have hw1 := (hw0.alloc 901 (.deferred (some []))).alloc 900 (.loop rc)
  rw [World.size_alloc] at hw1
  have hpr : ∀ p ∈ ps, p < N := fun p hp => by have := List.all_eq_true.1 hpN p hp; simpa [Nat.blt_eq] using this
  refine ⟨w.heap.size + 1, [{ target := .collected w.heap.size, args := #[] }], (w.alloc (.deferred (some []))).alloc (.loop rc), { target := .fn (.func gf) lb.toArray, args := #[.func (.yield (w.heap.size + 1)) #[] #[]] }, ((w.alloc (.deferred (some []))).alloc (.loop rc)), gf,
    #[.func (.yield (w.heap.size + 1)) #[] #[]] ++ lb.toArray, ((w.alloc (.deferred (some []))).alloc (.loop rc)), run_enterLoop_outer _ _ _ _ _, ?_, fun _ _ => trivial, ?_, fun hd => (nomatch (hd : false = true)), ?_⟩
  · simp only [resolve, ha.ev hg]
    simp [go_sem]
  · simp [invoke, run_enter he]
  · have hcall := hIt w0 M (w.heap.size + 1) (RJ (w.heap.size + 1) w.heap.size rc J) (RX (w.heap.size + 1) w.heap.size rc Jx)
      (fun i Lt ⟨Lc, hJ, hLt⟩ => by subst hLt; exact hNeed i Lc _ _ hJ) ?_ (recL (w.heap.size + 1) w.heap.size rc L0) _ ⟨L0, h0, rfl⟩ (okL_recL (hok 0 L0 h0)) hw1
    · have e : (Value.func (.yield (w.heap.size + 1)) #[] #[] :: lb).toArray = #[.func (.yield (w.heap.size + 1)) #[] #[]] ++ lb.toArray := by simp
      rw [e] at hcall
      refine callsIn_fw (hcall.mono ?_)
      rintro e W2 ⟨⟨v, rfl⟩, Lt', hok', hst, (⟨Lc, hJ, rfl⟩ | ⟨c, Lc, hJ, rfl⟩)⟩
      · refine ⟨none, _, run_endLoop (hst.known 900 _ _ rfl).1 (by simp), ?_⟩
        refine hdone w.heap.size Lc hJ _ _ ⟨ha.size, by show _ ++ a.defers = _; rw [ha.defers]; rfl, ha.tm⟩ ((hst.putObj (.loop _) (i := 900) rfl).weaken fun i x hx => ?_)
        rw [look_cons, if_neg]
        · rw [recL, look_cons, if_neg]
          · exact hx
          · rintro rfl
            rw [look_cons, if_neg (by omega)] at hx
            have hr := hok _ Lc hJ
            simp only [okR, Bool.and_eq_true, Bool.not_eq_true'] at hr
            rw [inIds_look hx] at hr; cases hr.1.2
        · rintro rfl
          rw [look_cons, if_neg (by omega)] at hx
          have hr := hok _ Lc hJ
          simp only [okR, Bool.and_eq_true, Bool.not_eq_true'] at hr
          rw [inIds_look hx] at hr; cases hr.1.2
      · refine ⟨some c, _, run_endLoop (hst.known 900 _ _ rfl).1 (by simp), ?_⟩
        refine hstop w.heap.size c Lc hJ _ _ ⟨ha.size, by show _ ++ a.defers = _; rw [ha.defers]; rfl, ha.tm⟩ ((hst.putObj (.loop _) (i := 900) rfl).weaken fun i x hx => ?_)
        have hr : inIds Lc 900 = false := by
          simp only [recL, okL, Bool.and_eq_true, Bool.not_eq_true', inIds] at hok'
          have := hok'.1.1
          exact (by simpa using this : _ ∧ _).2
        have h9 : i ≠ 900 := by
          rintro rfl
          rw [look_cons, if_neg (by omega)] at hx
          rw [inIds_look hx] at hr; cases hr
        rw [look_cons, if_neg (Ne.symm h9), recL, look_cons, if_neg (Ne.symm h9)]
        exact hx
    · -- the rounds
      rintro i x hx Lt ⟨Lc, hJ, rfl⟩ hk W hW
      have hxm : x ∈ xs := List.mem_of_getElem? hx
      refine ⟨fn, _, assign, body, run_yield (hW.known 900 _ _ rfl).1 (by show x.toArray.size = ps.toArray.size; simpa using hps x hxm), roundIn_of_wpIn trivial ?_⟩
      have hfr : Fr N ⟨[], some (w.heap.size + 1)⟩ { tmps := a.tmps, defers := [] } T := ⟨ha.size, rfl, ha.tm⟩
      have hz := fr_zip ps x a.tmps T hpr hfr
      have e : ((rc.params.zip x.toArray).foldl (fun tmps (t, a) => tmps.setIfInBounds t a) rc.tmps) = (ps.zip x).foldl (fun t (p, v) => t.setIfInBounds p v) a.tmps := by
        show ((ps.toArray.zip x.toArray).foldl _ a.tmps) = _
        rw [List.zip_toArray, List.foldl_toArray]
      have := hround (w.heap.size + 1) w.heap.size rc i x Lc hx hJ W hW _ W (e ▸ hz) hW.within
      exact this

/-! ## A function that holds such a statement -/
theorem calls_ofM {f : FuncId} {fn : Func} {c : Code} {args : List Value} {w : World} {R : Ending → World → Prop} (hf : P.funcs[f]? = some fn) (hb : fn.body = some c) (hn : fn.ntmps = N) (hl : Nat.ble args.length N = true)
    (hw : St w M w L) (h : CW P w M N D0 c (enum 0 args) L (bodyPostM (fw none) 0 P fn R)) : Calls P f args.toArray w R := by
  have hl' : args.length ≤ N := by simpa using hl
  refine callsIn_wide.1 (callsIn_of_wp_marks (F := fw none) (n := 0) hf hb trivial (h _ w ⟨?_, rfl, fun k v hv => ?_⟩ hw))
  · simp only [List.size_toArray, hn, Array.size_append, Array.size_replicate]; omega
  · obtain ⟨_, h2⟩ := look_enum args 0 k v hv
    simp only [Nat.sub_zero] at h2
    have hk : k < args.length := (List.getElem?_eq_some_iff.1 h2).1
    rw [Array.getElem?_append_left (by simpa using hk)]
    simpa using h2
theorem at_retM {fn : Func} {R : Ending → World → Prop} {rs : List ResultVar} {vs : List Value} {nD : Nat} (hr : fn.results.toList = rs) (hl : look L 901 = some (nD, .deferred (some []))) (h : RVs P T (without L [901]) rs vs)
    (hR : ∀ w, St w0 M w (without L [901]) → R (.returned (tup vs)) w) : At w0 M N (Dm nD) (bodyPostM (fw none) 0 P fn R) .ret T L := by
  intro a w ha hw
  show LeavesInM (fw none) 0 P fn a.tmps R a.defers .returning w
  rw [ha.defers]
  have hst : St w0 M (w.putObj nD (.deferred none)) (without L [901]) := (hw.putObj (.deferred none) hl).weaken fun i x hx => by
    rw [look_without] at hx
    rw [look_cons]
    split
    · rename_i e; subst e; simp [inL] at hx
    · cases hk : inL [901] i
      · rw [hk] at hx; exact hx
      · rw [hk] at hx; cases hx
  exact ⟨by simp, .inl ⟨nD, _, rfl, run_takeDeferred (hw.known 901 nD _ hl).1, tup vs, run_results ha hst (hr ▸ h), hR _ hst⟩⟩

/-- A guarded operation that is loud, whose guard holds. -/
theorem steps_gs {ops : Array Oper} {d : Option Tmp} {j e : Nat} {want : Bool} {op : Op} {t : TypeId} {p : String} {af : Array Edge} {r : List Oper} {K : TL → HL → Prop} {Q : Exit → Act → World → Prop}
    (hd : (ops[j]?).bind (·.dst) = some e) (hb : look T e = some (.bool want))
    (h : Step P w0 M N D { dst := d, op := op, type := t, pos := p, after := af, guard := some (j, want) } T L (fun T' L' => Steps P w0 M N D ops r T' L' K Q) Q) :
    Steps P w0 M N D ops ({ dst := d, op := op, type := t, pos := p, after := af, guard := some (j, want) } :: r) T L K Q := by
  simp only [Steps]
  refine ⟨e, want, hd, hb, ?_⟩
  rw [if_pos rfl]
  exact h
/-- Blocks more, that a call has made. -/
theorem St.call {w w' : World} {Ln : HL} (h : St w0 M w L) (h' : St w [] w' Ln) : St w0 M w' (Ln ++ L) := by
  have hn : ∀ i b o, look Ln i = some (b, o) → w.heap.size ≤ b := fun i b o hl => by
    rcases (h'.known i b o hl).2 with h1 | h1
    · exact h1
    · cases h1
  refine ⟨h'.os.trans h.os, h'.tape.trans h.tape, h'.output.trans h.output, Nat.le_trans h.size h'.size, fun k hk hM => ?_, fun i b o hl => ?_, fun i j b o c p h1 h2 hne => ?_⟩
  · rw [h'.old k (Nat.lt_of_lt_of_le hk h.size) (by simp)]; exact h.old k hk hM
  · rw [look_append] at hl
    split at hl
    · rename_i x hx
      cases hl
      exact ⟨(h'.known i b o hx).1, .inl (Nat.le_trans h.size (hn i b o hx))⟩
    · obtain ⟨h1, h2⟩ := h.known i b o hl
      exact ⟨(h'.old b (h.lt hl) (by simp)).trans h1, h2⟩
  · rw [look_append] at h1 h2
    split at h1
    · rename_i x hx
      cases h1
      split at h2
      · rename_i y hy
        cases h2
        exact h'.apart i j b o c p hx hy hne
      · have := h.lt h2; have := hn i b o hx; omega
    · split at h2
      · rename_i y hy
        cases h2
        have := h.lt h1; have := hn j c p hy; omega
      · exact h.apart i j b o c p h1 h2 hne
/-- A call that makes blocks. -/
theorem s_callSt {d : Nat} {x : Operand} {args : Array Operand} {ts : Array TypeId} {f : FuncId} {fs cs : Array Value} {vs : List Value} {t : TypeId} {p : String} {af : Array Edge} {g : Option (Nat × Bool)} {K : TL → HL → Prop} {Q : Exit → Act → World → Prop} {R : Value → HL → Prop}
    (he : Ent P f) (hN : Nat.blt d N = true) (hx : ev T x = some (.func (.func f) fs cs)) (hv : evs T args.toList = some vs)
    (h : ∀ w, St w0 M w L → Calls P f (fs ++ vs.toArray ++ cs) w fun e w' => ∃ v Ln, e = .returned v ∧ R v Ln ∧ St w [] w' Ln) (k : ∀ v Ln, R v Ln → K ((d, v) :: T) (Ln ++ L)) :
    Step P w0 M N D { dst := some d, op := .call { callee := .value x, args := args, argTypes := ts }, type := t, pos := p, after := af, guard := g } T L K Q :=
  s_call he hN hx hv fun w hw => (h w hw).mono fun _ _ ⟨v, Ln, h1, h2, h3⟩ => ⟨v, _, h1, hw.call h3, k v Ln h2⟩
end
end Go.NP
