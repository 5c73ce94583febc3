/-
  No cell of these rows narrows 'for every input' (looked for: loops, veiled, ifaces, maps, wideKeys, modest, calm, conditions, laid).
  DERIVED. THE GIVEN ROWS OF THIS SEAT. 4 by the template 'for every input the law returns true; each argument reads behind the call as it read before'; 0 by the template 'total and deterministic' (their statements: YtfehpceafnjmnaaTotals.lean).
  GIVEN WITH THE SEED: the statements are not yours to turn. If you find one false, say at which input.
  Laid BY PROGRAM, IN A SANDBOX (cutbox-rows.mjs): the forced cells as the released guide's own fill.sh prints them over the translation 523793af354e965b… (all of the seat's roots in one cut). By AI agents, Wed Nov 11 2026. No macro, syntax, notation, axiom, sorry.
-/
import Derived.Test.YtfehpceafnjmnaaChecked
import GoSem.Claim
import GoSem.ClaimJoined
import GoSem.ClaimMapViews
import Derived.JoinedTies
import Derived.KernelRfl
namespace Go.Proofs.Ytfehpceafnjmnaa
/- THE CELL 'sum', in the pinned program and in every row, IS THE sha256 OF THE DUMP (.gsa) THAT YtfehpceafnjmnaaProg.lean LOADS. Nothing in Lean hashes anything: it is a label: what it is worth is what the hold of that sum in a sandbox is worth. -/
noncomputable def Try.pinned : Pinned := { name := "ytfehpceafnjmnaa", sum := "523793af354e965bc2dc6485aa0796f7a12518a4d6f1b797c2ad33696cb37899", checked := Try.checked }
namespace Rows
def none {H : Type} : Left H := { results := [], args := [] }

/-- 'laws.FnExactNodeWord': WHATEVER THE INPUT: true; the input reads as it did. -/
def fnExactNodeWordSpec : ChangeSpec := { name := "fnExactNodeWord", fn := fun _ => fun
  | [d] => { results := [.lit (.bool true)], args := [d] }
  | _ => none }
def fnExactNodeWordRow : OpenClaim := { program := "ytfehpceafnjmnaa", sum := "523793af354e965bc2dc6485aa0796f7a12518a4d6f1b797c2ad33696cb37899", func := "loop.example/g00851/laws.FnExactNodeWord", spec := "fnExactNodeWord", apart := false }
def FnExactNodeWordSaid : Prop := fnExactNodeWordRow.holds Try.pinned (OpenSpec.ofChange fnExactNodeWordSpec)

/-- ITS FALSE NEIGHBOUR: 'it returns false'. Refute it at one input. -/
def fnExactNodeWordWrong : ChangeSpec := { name := "fnExactNodeWord", fn := fun _ => fun
  | [d] => { results := [.lit (.bool false)], args := [d] }
  | _ => none }
def FnExactNodeWordWrongFalsely : Prop := fnExactNodeWordRow.holds Try.pinned (OpenSpec.ofChange fnExactNodeWordWrong)

/-- 'laws.FnExactNodeOf': WHATEVER THE INPUT: true; the input reads as it did. -/
def fnExactNodeOfSpec : ChangeSpec := { name := "fnExactNodeOf", fn := fun _ => fun
  | [d] => { results := [.lit (.bool true)], args := [d] }
  | _ => none }
def fnExactNodeOfRow : OpenClaim := { program := "ytfehpceafnjmnaa", sum := "523793af354e965bc2dc6485aa0796f7a12518a4d6f1b797c2ad33696cb37899", func := "loop.example/g00851/laws.FnExactNodeOf", spec := "fnExactNodeOf", apart := false }
def FnExactNodeOfSaid : Prop := fnExactNodeOfRow.holds Try.pinned (OpenSpec.ofChange fnExactNodeOfSpec)

/-- ITS FALSE NEIGHBOUR: 'it returns false'. Refute it at one input. -/
def fnExactNodeOfWrong : ChangeSpec := { name := "fnExactNodeOf", fn := fun _ => fun
  | [d] => { results := [.lit (.bool false)], args := [d] }
  | _ => none }
def FnExactNodeOfWrongFalsely : Prop := fnExactNodeOfRow.holds Try.pinned (OpenSpec.ofChange fnExactNodeOfWrong)

/-- 'laws.FnExactFaultOf': WHATEVER THE INPUT: true; the input reads as it did. -/
def fnExactFaultOfSpec : ChangeSpec := { name := "fnExactFaultOf", fn := fun _ => fun
  | [d] => { results := [.lit (.bool true)], args := [d] }
  | _ => none }
def fnExactFaultOfRow : OpenClaim := { program := "ytfehpceafnjmnaa", sum := "523793af354e965bc2dc6485aa0796f7a12518a4d6f1b797c2ad33696cb37899", func := "loop.example/g00851/laws.FnExactFaultOf", spec := "fnExactFaultOf", unfollowed := true, recurses := true, apart := false }
def FnExactFaultOfSaid : Prop := fnExactFaultOfRow.holds Try.pinned (OpenSpec.ofChange fnExactFaultOfSpec)

/-- ITS FALSE NEIGHBOUR: 'it returns false'. Refute it at one input. -/
def fnExactFaultOfWrong : ChangeSpec := { name := "fnExactFaultOf", fn := fun _ => fun
  | [d] => { results := [.lit (.bool false)], args := [d] }
  | _ => none }
def FnExactFaultOfWrongFalsely : Prop := fnExactFaultOfRow.holds Try.pinned (OpenSpec.ofChange fnExactFaultOfWrong)

/-- 'laws.FnExactWithFault': WHATEVER THE INPUT: true; the input reads as it did. -/
def fnExactWithFaultSpec : ChangeSpec := { name := "fnExactWithFault", fn := fun _ => fun
  | [d1, d2, d3] => { results := [.lit (.bool true)], args := [d1, d2, d3] }
  | _ => none }
def fnExactWithFaultRow : OpenClaim := { program := "ytfehpceafnjmnaa", sum := "523793af354e965bc2dc6485aa0796f7a12518a4d6f1b797c2ad33696cb37899", func := "loop.example/g00851/laws.FnExactWithFault", spec := "fnExactWithFault", unfollowed := true, recurses := true, apart := false }
def FnExactWithFaultSaid : Prop := fnExactWithFaultRow.holds Try.pinned (OpenSpec.ofChange fnExactWithFaultSpec)

/-- ITS FALSE NEIGHBOUR: 'it returns false'. Refute it at one input. -/
def fnExactWithFaultWrong : ChangeSpec := { name := "fnExactWithFault", fn := fun _ => fun
  | [d1, d2, d3] => { results := [.lit (.bool false)], args := [d1, d2, d3] }
  | _ => none }
def FnExactWithFaultWrongFalsely : Prop := fnExactWithFaultRow.holds Try.pinned (OpenSpec.ofChange fnExactWithFaultWrong)

/- THE SECOND FORM. 'bulk': how many values and letters a reading holds, each counted each time it is reached (what is shared counts as often as it is met; a slice's spare places count too). A statement '..UptoSaid' is the law's where the arguments, and the package variables that the reading takes, are together of bulk at most 1048576: NARROWER than '..Said'. Prove '..Said' where nothing that the law and all that it calls make is longer than what came in: it says more and counts as full. Else prove '..UptoSaid'. A law counts once. -/
mutual
def uptoBulk {H : Type} : DataW H → Nat
  | .lit (.string bytes) => bytes.length + 1
  | .lit _ => 1
  | .nil => 1
  | .ptr d => uptoBulk d + 1
  | .slice elems spare => uptoBulkAll elems + uptoBulkAll spare + 1
  | .agg parts => uptoBulkAll parts + 1
  | .iface _ d => uptoBulk d + 1
  | .map entries => uptoBulkEntries entries + 1
  | .held _ => 1
def uptoBulkAll {H : Type} : List (DataW H) → Nat
  | [] => 0
  | d :: r => uptoBulk d + uptoBulkAll r
def uptoBulkEntries {H : Type} : List (Lit × DataW H) → Nat
  | [] => 0
  | x :: r => uptoBulkEntry x + uptoBulkEntries r
def uptoBulkEntry {H : Type} : Lit × DataW H → Nat
  | (.string bytes, d) => bytes.length + uptoBulk d + 1
  | (_, d) => uptoBulk d + 1
 end
def uptoSmall : (H : Type) → List (DataW H) → Bool := fun _ ds => decide (uptoBulkAll ds ≤ 1048576)
def OpenSpec.upto (s : _root_.Go.ChangeSpec) : _root_.Go.OpenSpec := { _root_.Go.OpenSpec.ofChange s with cond := some uptoSmall }

/-- 'laws.FnExactNodeWord', WHERE WHAT IT READS IS OF BULK AT MOST 1048576: true; the input reads as it did. -/
def fnExactNodeWordUptoRow : OpenClaim := { program := "ytfehpceafnjmnaa", sum := "523793af354e965bc2dc6485aa0796f7a12518a4d6f1b797c2ad33696cb37899", func := "loop.example/g00851/laws.FnExactNodeWord", spec := "fnExactNodeWord", apart := false, narrowed := true }
def FnExactNodeWordUptoSaid : Prop := fnExactNodeWordUptoRow.holds Try.pinned (OpenSpec.upto fnExactNodeWordSpec)

/-- 'laws.FnExactNodeOf', WHERE WHAT IT READS IS OF BULK AT MOST 1048576: true; the input reads as it did. -/
def fnExactNodeOfUptoRow : OpenClaim := { program := "ytfehpceafnjmnaa", sum := "523793af354e965bc2dc6485aa0796f7a12518a4d6f1b797c2ad33696cb37899", func := "loop.example/g00851/laws.FnExactNodeOf", spec := "fnExactNodeOf", apart := false, narrowed := true }
def FnExactNodeOfUptoSaid : Prop := fnExactNodeOfUptoRow.holds Try.pinned (OpenSpec.upto fnExactNodeOfSpec)

/-- 'laws.FnExactFaultOf', WHERE WHAT IT READS IS OF BULK AT MOST 1048576: true; the input reads as it did. -/
def fnExactFaultOfUptoRow : OpenClaim := { program := "ytfehpceafnjmnaa", sum := "523793af354e965bc2dc6485aa0796f7a12518a4d6f1b797c2ad33696cb37899", func := "loop.example/g00851/laws.FnExactFaultOf", spec := "fnExactFaultOf", unfollowed := true, recurses := true, apart := false, narrowed := true }
def FnExactFaultOfUptoSaid : Prop := fnExactFaultOfUptoRow.holds Try.pinned (OpenSpec.upto fnExactFaultOfSpec)

/-- 'laws.FnExactWithFault', WHERE WHAT IT READS IS OF BULK AT MOST 1048576: true; the input reads as it did. -/
def fnExactWithFaultUptoRow : OpenClaim := { program := "ytfehpceafnjmnaa", sum := "523793af354e965bc2dc6485aa0796f7a12518a4d6f1b797c2ad33696cb37899", func := "loop.example/g00851/laws.FnExactWithFault", spec := "fnExactWithFault", unfollowed := true, recurses := true, apart := false, narrowed := true }
def FnExactWithFaultUptoSaid : Prop := fnExactWithFaultUptoRow.holds Try.pinned (OpenSpec.upto fnExactWithFaultSpec)

end Rows
end Go.Proofs.Ytfehpceafnjmnaa
