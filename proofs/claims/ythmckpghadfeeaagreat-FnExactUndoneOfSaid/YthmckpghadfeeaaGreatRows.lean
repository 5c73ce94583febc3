/-
  No cell of these rows narrows 'for every input' (looked for: loops, veiled, ifaces, maps, wideKeys, modest, calm, conditions, laid).
  DERIVED. THE GIVEN ROWS OF THIS SEAT. 3 by the template 'for every input the law returns true; each argument reads behind the call as it read before'; 0 by the template 'total and deterministic' (their statements: YthmckpghadfeeaaGreatTotals.lean).
  GIVEN WITH THE SEED: the statements are not yours to turn. If you find one false, say at which input.
  Laid BY PROGRAM, IN A SANDBOX (cutbox-rows.mjs): the forced cells as the released guide's own fill.sh prints them over the translation a6f0ac999dcb2eec… (all of the seat's roots in one cut). By AI agents, Wed Nov 11 2026. No macro, syntax, notation, axiom, sorry.
-/
import Derived.Test.YthmckpghadfeeaaGreatChecked
import GoSem.Claim
import GoSem.ClaimJoined
import GoSem.ClaimMapViews
import Derived.JoinedTies
import Derived.KernelRfl
namespace Go.Proofs.YthmckpghadfeeaaGreat
/- THE CELL 'sum', in the pinned program and in every row, IS THE sha256 OF THE DUMP (.gsa) THAT YthmckpghadfeeaaGreatProg.lean LOADS. Nothing in Lean hashes anything: it is a label: what it is worth is what the hold of that sum in a sandbox is worth. -/
noncomputable def Tryz.pinned : Pinned := { name := "ythmckpghadfeeaagreat", sum := "a6f0ac999dcb2eec2d75996daf5c9ebe4f7adeac177be199dc63d17a44691c40", checked := Tryz.checked }
namespace Rows
def none {H : Type} : Left H := { results := [], args := [] }

/-- 'laws.FnExactUndoneOf': WHATEVER THE INPUT: true; the input reads as it did. -/
def fnExactUndoneOfSpec : ChangeSpec := { name := "fnExactUndoneOf", fn := fun _ => fun
  | [d] => { results := [.lit (.bool true)], args := [d] }
  | _ => none }
def fnExactUndoneOfRow : OpenClaim := { program := "ythmckpghadfeeaagreat", sum := "a6f0ac999dcb2eec2d75996daf5c9ebe4f7adeac177be199dc63d17a44691c40", func := "loop.example/g00851/laws.FnExactUndoneOf", spec := "fnExactUndoneOf", unfollowed := true, recurses := true, apart := false }
def FnExactUndoneOfSaid : Prop := fnExactUndoneOfRow.holds Tryz.pinned (OpenSpec.ofChange fnExactUndoneOfSpec)

/-- ITS FALSE NEIGHBOUR: 'it returns false'. Refute it at one input. -/
def fnExactUndoneOfWrong : ChangeSpec := { name := "fnExactUndoneOf", fn := fun _ => fun
  | [d] => { results := [.lit (.bool false)], args := [d] }
  | _ => none }
def FnExactUndoneOfWrongFalsely : Prop := fnExactUndoneOfRow.holds Tryz.pinned (OpenSpec.ofChange fnExactUndoneOfWrong)

/-- 'laws.FnExactBehindOf': WHATEVER THE INPUT: true; the input reads as it did. -/
def fnExactBehindOfSpec : ChangeSpec := { name := "fnExactBehindOf", fn := fun _ => fun
  | [d] => { results := [.lit (.bool true)], args := [d] }
  | _ => none }
def fnExactBehindOfRow : OpenClaim := { program := "ythmckpghadfeeaagreat", sum := "a6f0ac999dcb2eec2d75996daf5c9ebe4f7adeac177be199dc63d17a44691c40", func := "loop.example/g00851/laws.FnExactBehindOf", spec := "fnExactBehindOf", unfollowed := true, recurses := true, apart := false }
def FnExactBehindOfSaid : Prop := fnExactBehindOfRow.holds Tryz.pinned (OpenSpec.ofChange fnExactBehindOfSpec)

/-- ITS FALSE NEIGHBOUR: 'it returns false'. Refute it at one input. -/
def fnExactBehindOfWrong : ChangeSpec := { name := "fnExactBehindOf", fn := fun _ => fun
  | [d] => { results := [.lit (.bool false)], args := [d] }
  | _ => none }
def FnExactBehindOfWrongFalsely : Prop := fnExactBehindOfRow.holds Tryz.pinned (OpenSpec.ofChange fnExactBehindOfWrong)

/-- 'laws.FnExactQuietIn': WHATEVER THE INPUT: true; the input reads as it did. -/
def fnExactQuietInSpec : ChangeSpec := { name := "fnExactQuietIn", fn := fun _ => fun
  | [d] => { results := [.lit (.bool true)], args := [d] }
  | _ => none }
def fnExactQuietInRow : OpenClaim := { program := "ythmckpghadfeeaagreat", sum := "a6f0ac999dcb2eec2d75996daf5c9ebe4f7adeac177be199dc63d17a44691c40", func := "loop.example/g00851/laws.FnExactQuietIn", spec := "fnExactQuietIn", unfollowed := true, recurses := true, apart := false }
def FnExactQuietInSaid : Prop := fnExactQuietInRow.holds Tryz.pinned (OpenSpec.ofChange fnExactQuietInSpec)

/-- ITS FALSE NEIGHBOUR: 'it returns false'. Refute it at one input. -/
def fnExactQuietInWrong : ChangeSpec := { name := "fnExactQuietIn", fn := fun _ => fun
  | [d] => { results := [.lit (.bool false)], args := [d] }
  | _ => none }
def FnExactQuietInWrongFalsely : Prop := fnExactQuietInRow.holds Tryz.pinned (OpenSpec.ofChange fnExactQuietInWrong)

/- THE SECOND FORM. 'bulk': how many values and letters a reading holds, each counted each time it is reached (what is shared counts as often as it is met; a slice's spare places count too). A statement '..UptoSaid' is the law's where the arguments, and the package variables that the reading takes, are together of bulk at most 1048576: NARROWER than '..Said'. Prove '..Said' where nothing that the law and all that it calls make is longer than what came in: it says more and counts as full. Else prove '..UptoSaid'. A law counts once. -/
mutual
def uptoBulk {H : Type} : DataW H → Nat
  | .lit (.string bytes) => bytes.length + 1
  | .lit _ => 1
  | .nil => 1
  | .ptr d => uptoBulk d + 1
  | .slice elems spare => uptoBulkAll elems + uptoBulkAll spare + 1
  | .agg parts => uptoBulkAll parts + 1
  | .iface _ d => uptoBulk d + 1
  | .map entries => uptoBulkEntries entries + 1
  | .held _ => 1
def uptoBulkAll {H : Type} : List (DataW H) → Nat
  | [] => 0
  | d :: r => uptoBulk d + uptoBulkAll r
def uptoBulkEntries {H : Type} : List (Lit × DataW H) → Nat
  | [] => 0
  | x :: r => uptoBulkEntry x + uptoBulkEntries r
def uptoBulkEntry {H : Type} : Lit × DataW H → Nat
  | (.string bytes, d) => bytes.length + uptoBulk d + 1
  | (_, d) => uptoBulk d + 1
 end
def uptoSmall : (H : Type) → List (DataW H) → Bool := fun _ ds => decide (uptoBulkAll ds ≤ 1048576)
def OpenSpec.upto (s : _root_.Go.ChangeSpec) : _root_.Go.OpenSpec := { _root_.Go.OpenSpec.ofChange s with cond := some uptoSmall }

/-- 'laws.FnExactUndoneOf', WHERE WHAT IT READS IS OF BULK AT MOST 1048576: true; the input reads as it did. -/
def fnExactUndoneOfUptoRow : OpenClaim := { program := "ythmckpghadfeeaagreat", sum := "a6f0ac999dcb2eec2d75996daf5c9ebe4f7adeac177be199dc63d17a44691c40", func := "loop.example/g00851/laws.FnExactUndoneOf", spec := "fnExactUndoneOf", unfollowed := true, recurses := true, apart := false, narrowed := true }
def FnExactUndoneOfUptoSaid : Prop := fnExactUndoneOfUptoRow.holds Tryz.pinned (OpenSpec.upto fnExactUndoneOfSpec)

/-- 'laws.FnExactBehindOf', WHERE WHAT IT READS IS OF BULK AT MOST 1048576: true; the input reads as it did. -/
def fnExactBehindOfUptoRow : OpenClaim := { program := "ythmckpghadfeeaagreat", sum := "a6f0ac999dcb2eec2d75996daf5c9ebe4f7adeac177be199dc63d17a44691c40", func := "loop.example/g00851/laws.FnExactBehindOf", spec := "fnExactBehindOf", unfollowed := true, recurses := true, apart := false, narrowed := true }
def FnExactBehindOfUptoSaid : Prop := fnExactBehindOfUptoRow.holds Tryz.pinned (OpenSpec.upto fnExactBehindOfSpec)

/-- 'laws.FnExactQuietIn', WHERE WHAT IT READS IS OF BULK AT MOST 1048576: true; the input reads as it did. -/
def fnExactQuietInUptoRow : OpenClaim := { program := "ythmckpghadfeeaagreat", sum := "a6f0ac999dcb2eec2d75996daf5c9ebe4f7adeac177be199dc63d17a44691c40", func := "loop.example/g00851/laws.FnExactQuietIn", spec := "fnExactQuietIn", unfollowed := true, recurses := true, apart := false, narrowed := true }
def FnExactQuietInUptoSaid : Prop := fnExactQuietInUptoRow.holds Tryz.pinned (OpenSpec.upto fnExactQuietInSpec)

end Rows
end Go.Proofs.YthmckpghadfeeaaGreat
