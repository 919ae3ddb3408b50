/-
  No cell of these rows narrows 'for every input' (looked for: loops, veiled, ifaces, maps, wideKeys, modest, calm, conditions, laid).
  DERIVED. THE GIVEN ROWS OF THIS SEAT. 3 by the template 'for every input the law returns true; each argument reads behind the call as it read before'; 0 by the template 'total and deterministic' (their statements: YtomdahjakkifbaaGreatTotals.lean).
  GIVEN WITH THE SEED: the statements are not yours to turn. If you find one false, say at which input.
  Laid BY PROGRAM, IN A SANDBOX (cutbox-rows.mjs): the forced cells as the released guide's own fill.sh prints them over the translation 07f83de3d40eb559… (all of the seat's roots in one cut). By AI agents, Wed Nov 11 2026. No macro, syntax, notation, axiom, sorry.
-/
import Derived.Test.YtomdahjakkifbaaGreatChecked
import GoSem.Claim
import GoSem.ClaimJoined
import GoSem.ClaimMapViews
import Derived.JoinedTies
import Derived.KernelRfl
namespace Go.Proofs.YtomdahjakkifbaaGreat
/- THE CELL 'sum', in the pinned program and in every row, IS THE sha256 OF THE DUMP (.gsa) THAT YtomdahjakkifbaaGreatProg.lean LOADS. Nothing in Lean hashes anything: it is a label: what it is worth is what the hold of that sum in a sandbox is worth. -/
noncomputable def Tryz.pinned : Pinned := { name := "ytomdahjakkifbaagreat", sum := "07f83de3d40eb559440fd9611285d8b5d674304edfe65bdf7c27df2ce24b827e", checked := Tryz.checked }
namespace Rows
def none {H : Type} : Left H := { results := [], args := [] }

/-- 'ninepinlaw16.GjkLess': WHATEVER THE INPUT: true; the input reads as it did. -/
def gjkLessSpec : ChangeSpec := { name := "gjkLess", fn := fun _ => fun
  | [d1, d2] => { results := [.lit (.bool true)], args := [d1, d2] }
  | _ => none }
def gjkLessRow : OpenClaim := { program := "ytomdahjakkifbaagreat", sum := "07f83de3d40eb559440fd9611285d8b5d674304edfe65bdf7c27df2ce24b827e", func := "ninepin/ninepinlaw16.GjkLess", spec := "gjkLess", inPlace := ["math/bits.Add64"], unfollowed := true, recurses := true, apart := false }
def GjkLessSaid : Prop := gjkLessRow.holds Tryz.pinned (OpenSpec.ofChange gjkLessSpec)

/-- ITS FALSE NEIGHBOUR: 'it returns false'. Refute it at one input. -/
def gjkLessWrong : ChangeSpec := { name := "gjkLess", fn := fun _ => fun
  | [d1, d2] => { results := [.lit (.bool false)], args := [d1, d2] }
  | _ => none }
def GjkLessWrongFalsely : Prop := gjkLessRow.holds Tryz.pinned (OpenSpec.ofChange gjkLessWrong)

/-- 'ninepinlaw16.GjkNear': WHATEVER THE INPUT: true; the input reads as it did. -/
def gjkNearSpec : ChangeSpec := { name := "gjkNear", fn := fun _ => fun
  | [d] => { results := [.lit (.bool true)], args := [d] }
  | _ => none }
def gjkNearRow : OpenClaim := { program := "ytomdahjakkifbaagreat", sum := "07f83de3d40eb559440fd9611285d8b5d674304edfe65bdf7c27df2ce24b827e", func := "ninepin/ninepinlaw16.GjkNear", spec := "gjkNear", inPlace := ["math/bits.Add64"], unfollowed := true, recurses := true, apart := false }
def GjkNearSaid : Prop := gjkNearRow.holds Tryz.pinned (OpenSpec.ofChange gjkNearSpec)

/-- ITS FALSE NEIGHBOUR: 'it returns false'. Refute it at one input. -/
def gjkNearWrong : ChangeSpec := { name := "gjkNear", fn := fun _ => fun
  | [d] => { results := [.lit (.bool false)], args := [d] }
  | _ => none }
def GjkNearWrongFalsely : Prop := gjkNearRow.holds Tryz.pinned (OpenSpec.ofChange gjkNearWrong)

/-- 'ninepinlaw16.GjkBoth': WHATEVER THE INPUT: true; the input reads as it did. -/
def gjkBothSpec : ChangeSpec := { name := "gjkBoth", fn := fun _ => fun
  | [d1, d2, d3] => { results := [.lit (.bool true)], args := [d1, d2, d3] }
  | _ => none }
def gjkBothRow : OpenClaim := { program := "ytomdahjakkifbaagreat", sum := "07f83de3d40eb559440fd9611285d8b5d674304edfe65bdf7c27df2ce24b827e", func := "ninepin/ninepinlaw16.GjkBoth", spec := "gjkBoth", inPlace := ["math/bits.Add64"], unfollowed := true, recurses := true, apart := false }
def GjkBothSaid : Prop := gjkBothRow.holds Tryz.pinned (OpenSpec.ofChange gjkBothSpec)

/-- ITS FALSE NEIGHBOUR: 'it returns false'. Refute it at one input. -/
def gjkBothWrong : ChangeSpec := { name := "gjkBoth", fn := fun _ => fun
  | [d1, d2, d3] => { results := [.lit (.bool false)], args := [d1, d2, d3] }
  | _ => none }
def GjkBothWrongFalsely : Prop := gjkBothRow.holds Tryz.pinned (OpenSpec.ofChange gjkBothWrong)

/- THE SECOND FORM. 'bulk': how many values and letters a reading holds, each counted each time it is reached (what is shared counts as often as it is met; a slice's spare places count too). A statement '..UptoSaid' is the law's where the arguments, and the package variables that the reading takes, are together of bulk at most 1048576: NARROWER than '..Said'. Prove '..Said' where nothing that the law and all that it calls make is longer than what came in: it says more and counts as full. Else prove '..UptoSaid'. A law counts once. -/
mutual
def uptoBulk {H : Type} : DataW H → Nat
  | .lit (.string bytes) => bytes.length + 1
  | .lit _ => 1
  | .nil => 1
  | .ptr d => uptoBulk d + 1
  | .slice elems spare => uptoBulkAll elems + uptoBulkAll spare + 1
  | .agg parts => uptoBulkAll parts + 1
  | .iface _ d => uptoBulk d + 1
  | .map entries => uptoBulkEntries entries + 1
  | .held _ => 1
def uptoBulkAll {H : Type} : List (DataW H) → Nat
  | [] => 0
  | d :: r => uptoBulk d + uptoBulkAll r
def uptoBulkEntries {H : Type} : List (Lit × DataW H) → Nat
  | [] => 0
  | x :: r => uptoBulkEntry x + uptoBulkEntries r
def uptoBulkEntry {H : Type} : Lit × DataW H → Nat
  | (.string bytes, d) => bytes.length + uptoBulk d + 1
  | (_, d) => uptoBulk d + 1
 end
def uptoSmall : (H : Type) → List (DataW H) → Bool := fun _ ds => decide (uptoBulkAll ds ≤ 1048576)
def OpenSpec.upto (s : _root_.Go.ChangeSpec) : _root_.Go.OpenSpec := { _root_.Go.OpenSpec.ofChange s with cond := some uptoSmall }

/-- 'ninepinlaw16.GjkLess', WHERE WHAT IT READS IS OF BULK AT MOST 1048576: true; the input reads as it did. -/
def gjkLessUptoRow : OpenClaim := { program := "ytomdahjakkifbaagreat", sum := "07f83de3d40eb559440fd9611285d8b5d674304edfe65bdf7c27df2ce24b827e", func := "ninepin/ninepinlaw16.GjkLess", spec := "gjkLess", inPlace := ["math/bits.Add64"], unfollowed := true, recurses := true, apart := false, narrowed := true }
def GjkLessUptoSaid : Prop := gjkLessUptoRow.holds Tryz.pinned (OpenSpec.upto gjkLessSpec)

/-- 'ninepinlaw16.GjkNear', WHERE WHAT IT READS IS OF BULK AT MOST 1048576: true; the input reads as it did. -/
def gjkNearUptoRow : OpenClaim := { program := "ytomdahjakkifbaagreat", sum := "07f83de3d40eb559440fd9611285d8b5d674304edfe65bdf7c27df2ce24b827e", func := "ninepin/ninepinlaw16.GjkNear", spec := "gjkNear", inPlace := ["math/bits.Add64"], unfollowed := true, recurses := true, apart := false, narrowed := true }
def GjkNearUptoSaid : Prop := gjkNearUptoRow.holds Tryz.pinned (OpenSpec.upto gjkNearSpec)

/-- 'ninepinlaw16.GjkBoth', WHERE WHAT IT READS IS OF BULK AT MOST 1048576: true; the input reads as it did. -/
def gjkBothUptoRow : OpenClaim := { program := "ytomdahjakkifbaagreat", sum := "07f83de3d40eb559440fd9611285d8b5d674304edfe65bdf7c27df2ce24b827e", func := "ninepin/ninepinlaw16.GjkBoth", spec := "gjkBoth", inPlace := ["math/bits.Add64"], unfollowed := true, recurses := true, apart := false, narrowed := true }
def GjkBothUptoSaid : Prop := gjkBothUptoRow.holds Tryz.pinned (OpenSpec.upto gjkBothSpec)

end Rows
end Go.Proofs.YtomdahjakkifbaaGreat
