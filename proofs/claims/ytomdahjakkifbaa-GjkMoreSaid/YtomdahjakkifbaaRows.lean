/-
  No cell of these rows narrows 'for every input' (looked for: loops, veiled, ifaces, maps, wideKeys, modest, calm, conditions, laid).
  DERIVED. THE GIVEN ROWS OF THIS SEAT. 3 by the template 'for every input the law returns true; each argument reads behind the call as it read before'; 0 by the template 'total and deterministic' (their statements: YtomdahjakkifbaaTotals.lean).
  GIVEN WITH THE SEED: the statements are not yours to turn. If you find one false, say at which input.
  Laid BY PROGRAM, IN A SANDBOX (cutbox-rows.mjs): the forced cells as the released guide's own fill.sh prints them over the translation 9599cbf9bbafd624… (all of the seat's roots in one cut). By AI agents, Wed Nov 11 2026. No macro, syntax, notation, axiom, sorry.
-/
import Derived.Test.YtomdahjakkifbaaChecked
import GoSem.Claim
import GoSem.ClaimJoined
import GoSem.ClaimMapViews
import Derived.JoinedTies
import Derived.KernelRfl
namespace Go.Proofs.Ytomdahjakkifbaa
/- THE CELL 'sum', in the pinned program and in every row, IS THE sha256 OF THE DUMP (.gsa) THAT YtomdahjakkifbaaProg.lean LOADS. Nothing in Lean hashes anything: it is a label: what it is worth is what the hold of that sum in a sandbox is worth. -/
noncomputable def Try.pinned : Pinned := { name := "ytomdahjakkifbaa", sum := "9599cbf9bbafd624cca0e6d99f1e5d75cf6c8ba19943ebecce6b76fc1d935281", checked := Try.checked }
namespace Rows
def none {H : Type} : Left H := { results := [], args := [] }

/-- 'ninepinlaw16.GjkSame': WHATEVER THE INPUT: true; the input reads as it did. -/
def gjkSameSpec : ChangeSpec := { name := "gjkSame", fn := fun _ => fun
  | [d1, d2] => { results := [.lit (.bool true)], args := [d1, d2] }
  | _ => none }
def gjkSameRow : OpenClaim := { program := "ytomdahjakkifbaa", sum := "9599cbf9bbafd624cca0e6d99f1e5d75cf6c8ba19943ebecce6b76fc1d935281", func := "ninepin/ninepinlaw16.GjkSame", spec := "gjkSame", inPlace := ["math/bits.Add64"], unfollowed := true, recurses := true, apart := false }
def GjkSameSaid : Prop := gjkSameRow.holds Try.pinned (OpenSpec.ofChange gjkSameSpec)

/-- ITS FALSE NEIGHBOUR: 'it returns false'. Refute it at one input. -/
def gjkSameWrong : ChangeSpec := { name := "gjkSame", fn := fun _ => fun
  | [d1, d2] => { results := [.lit (.bool false)], args := [d1, d2] }
  | _ => none }
def GjkSameWrongFalsely : Prop := gjkSameRow.holds Try.pinned (OpenSpec.ofChange gjkSameWrong)

/-- 'ninepinlaw16.GjkBest': WHATEVER THE INPUT: true; the input reads as it did. -/
def gjkBestSpec : ChangeSpec := { name := "gjkBest", fn := fun _ => fun
  | [d] => { results := [.lit (.bool true)], args := [d] }
  | _ => none }
def gjkBestRow : OpenClaim := { program := "ytomdahjakkifbaa", sum := "9599cbf9bbafd624cca0e6d99f1e5d75cf6c8ba19943ebecce6b76fc1d935281", func := "ninepin/ninepinlaw16.GjkBest", spec := "gjkBest", inPlace := ["math/bits.Add64"], unfollowed := true, recurses := true, apart := false }
def GjkBestSaid : Prop := gjkBestRow.holds Try.pinned (OpenSpec.ofChange gjkBestSpec)

/-- ITS FALSE NEIGHBOUR: 'it returns false'. Refute it at one input. -/
def gjkBestWrong : ChangeSpec := { name := "gjkBest", fn := fun _ => fun
  | [d] => { results := [.lit (.bool false)], args := [d] }
  | _ => none }
def GjkBestWrongFalsely : Prop := gjkBestRow.holds Try.pinned (OpenSpec.ofChange gjkBestWrong)

/-- 'ninepinlaw16.GjkMore': WHATEVER THE INPUT: true; the input reads as it did. -/
def gjkMoreSpec : ChangeSpec := { name := "gjkMore", fn := fun _ => fun
  | [d1, d2] => { results := [.lit (.bool true)], args := [d1, d2] }
  | _ => none }
def gjkMoreRow : OpenClaim := { program := "ytomdahjakkifbaa", sum := "9599cbf9bbafd624cca0e6d99f1e5d75cf6c8ba19943ebecce6b76fc1d935281", func := "ninepin/ninepinlaw16.GjkMore", spec := "gjkMore", inPlace := ["math/bits.Add64"], unfollowed := true, recurses := true, apart := false }
def GjkMoreSaid : Prop := gjkMoreRow.holds Try.pinned (OpenSpec.ofChange gjkMoreSpec)

/-- ITS FALSE NEIGHBOUR: 'it returns false'. Refute it at one input. -/
def gjkMoreWrong : ChangeSpec := { name := "gjkMore", fn := fun _ => fun
  | [d1, d2] => { results := [.lit (.bool false)], args := [d1, d2] }
  | _ => none }
def GjkMoreWrongFalsely : Prop := gjkMoreRow.holds Try.pinned (OpenSpec.ofChange gjkMoreWrong)

/- THE SECOND FORM. 'bulk': how many values and letters a reading holds, each counted each time it is reached (what is shared counts as often as it is met; a slice's spare places count too). A statement '..UptoSaid' is the law's where the arguments, and the package variables that the reading takes, are together of bulk at most 1048576: NARROWER than '..Said'. Prove '..Said' where nothing that the law and all that it calls make is longer than what came in: it says more and counts as full. Else prove '..UptoSaid'. A law counts once. -/
mutual
def uptoBulk {H : Type} : DataW H → Nat
  | .lit (.string bytes) => bytes.length + 1
  | .lit _ => 1
  | .nil => 1
  | .ptr d => uptoBulk d + 1
  | .slice elems spare => uptoBulkAll elems + uptoBulkAll spare + 1
  | .agg parts => uptoBulkAll parts + 1
  | .iface _ d => uptoBulk d + 1
  | .map entries => uptoBulkEntries entries + 1
  | .held _ => 1
def uptoBulkAll {H : Type} : List (DataW H) → Nat
  | [] => 0
  | d :: r => uptoBulk d + uptoBulkAll r
def uptoBulkEntries {H : Type} : List (Lit × DataW H) → Nat
  | [] => 0
  | x :: r => uptoBulkEntry x + uptoBulkEntries r
def uptoBulkEntry {H : Type} : Lit × DataW H → Nat
  | (.string bytes, d) => bytes.length + uptoBulk d + 1
  | (_, d) => uptoBulk d + 1
 end
def uptoSmall : (H : Type) → List (DataW H) → Bool := fun _ ds => decide (uptoBulkAll ds ≤ 1048576)
def OpenSpec.upto (s : _root_.Go.ChangeSpec) : _root_.Go.OpenSpec := { _root_.Go.OpenSpec.ofChange s with cond := some uptoSmall }

/-- 'ninepinlaw16.GjkSame', WHERE WHAT IT READS IS OF BULK AT MOST 1048576: true; the input reads as it did. -/
def gjkSameUptoRow : OpenClaim := { program := "ytomdahjakkifbaa", sum := "9599cbf9bbafd624cca0e6d99f1e5d75cf6c8ba19943ebecce6b76fc1d935281", func := "ninepin/ninepinlaw16.GjkSame", spec := "gjkSame", inPlace := ["math/bits.Add64"], unfollowed := true, recurses := true, apart := false, narrowed := true }
def GjkSameUptoSaid : Prop := gjkSameUptoRow.holds Try.pinned (OpenSpec.upto gjkSameSpec)

/-- 'ninepinlaw16.GjkBest', WHERE WHAT IT READS IS OF BULK AT MOST 1048576: true; the input reads as it did. -/
def gjkBestUptoRow : OpenClaim := { program := "ytomdahjakkifbaa", sum := "9599cbf9bbafd624cca0e6d99f1e5d75cf6c8ba19943ebecce6b76fc1d935281", func := "ninepin/ninepinlaw16.GjkBest", spec := "gjkBest", inPlace := ["math/bits.Add64"], unfollowed := true, recurses := true, apart := false, narrowed := true }
def GjkBestUptoSaid : Prop := gjkBestUptoRow.holds Try.pinned (OpenSpec.upto gjkBestSpec)

/-- 'ninepinlaw16.GjkMore', WHERE WHAT IT READS IS OF BULK AT MOST 1048576: true; the input reads as it did. -/
def gjkMoreUptoRow : OpenClaim := { program := "ytomdahjakkifbaa", sum := "9599cbf9bbafd624cca0e6d99f1e5d75cf6c8ba19943ebecce6b76fc1d935281", func := "ninepin/ninepinlaw16.GjkMore", spec := "gjkMore", inPlace := ["math/bits.Add64"], unfollowed := true, recurses := true, apart := false, narrowed := true }
def GjkMoreUptoSaid : Prop := gjkMoreUptoRow.holds Try.pinned (OpenSpec.upto gjkMoreSpec)

end Rows
end Go.Proofs.Ytomdahjakkifbaa
