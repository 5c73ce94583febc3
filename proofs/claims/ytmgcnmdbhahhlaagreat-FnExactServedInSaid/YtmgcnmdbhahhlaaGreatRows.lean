/-
  No cell of these rows narrows 'for every input' (looked for: loops, veiled, ifaces, maps, wideKeys, modest, calm, conditions, laid).
  DERIVED. THE GIVEN ROWS OF THIS SEAT. 6 by the template 'for every input the law returns true; each argument reads behind the call as it read before'; 0 by the template 'total and deterministic' (their statements: YtmgcnmdbhahhlaaGreatTotals.lean).
  GIVEN WITH THE SEED: the statements are not yours to turn. If you find one false, say at which input.
  Laid BY PROGRAM, IN A SANDBOX (cutbox-rows.mjs): the forced cells as the released guide's own fill.sh prints them over the translation ec6e99d5dee388bb… (all of the seat's roots in one cut). By AI agents, Wed Nov 11 2026. No macro, syntax, notation, axiom, sorry.
-/
import Derived.Test.YtmgcnmdbhahhlaaGreatChecked
import GoSem.Claim
import GoSem.ClaimJoined
import GoSem.ClaimMapViews
import Derived.JoinedTies
import Derived.KernelRfl
namespace Go.Proofs.YtmgcnmdbhahhlaaGreat
/- THE CELL 'sum', in the pinned program and in every row, IS THE sha256 OF THE DUMP (.gsa) THAT YtmgcnmdbhahhlaaGreatProg.lean LOADS. Nothing in Lean hashes anything: it is a label: what it is worth is what the hold of that sum in a sandbox is worth. -/
noncomputable def Tryz.pinned : Pinned := { name := "ytmgcnmdbhahhlaagreat", sum := "ec6e99d5dee388bba9ec3671f8868e961adc3ff7f9e163230d888b0d71c4eb39", checked := Tryz.checked }
namespace Rows
def none {H : Type} : Left H := { results := [], args := [] }

/-- 'laws.FnExactClientReport': WHATEVER THE INPUT: true; the input reads as it did. -/
def fnExactClientReportSpec : ChangeSpec := { name := "fnExactClientReport", fn := fun _ => fun
  | [d1, d2] => { results := [.lit (.bool true)], args := [d1, d2] }
  | _ => none }
def fnExactClientReportRow : OpenClaim := { program := "ytmgcnmdbhahhlaagreat", sum := "ec6e99d5dee388bba9ec3671f8868e961adc3ff7f9e163230d888b0d71c4eb39", func := "loop.example/g00851/laws.FnExactClientReport", spec := "fnExactClientReport", unfollowed := true, recurses := true, apart := false }
def FnExactClientReportSaid : Prop := fnExactClientReportRow.holds Tryz.pinned (OpenSpec.ofChange fnExactClientReportSpec)

/-- ITS FALSE NEIGHBOUR: 'it returns false'. Refute it at one input. -/
def fnExactClientReportWrong : ChangeSpec := { name := "fnExactClientReport", fn := fun _ => fun
  | [d1, d2] => { results := [.lit (.bool false)], args := [d1, d2] }
  | _ => none }
def FnExactClientReportWrongFalsely : Prop := fnExactClientReportRow.holds Tryz.pinned (OpenSpec.ofChange fnExactClientReportWrong)

/-- 'laws.FnExactNetReport': WHATEVER THE INPUT: true; the input reads as it did. -/
def fnExactNetReportSpec : ChangeSpec := { name := "fnExactNetReport", fn := fun _ => fun
  | [d] => { results := [.lit (.bool true)], args := [d] }
  | _ => none }
def fnExactNetReportRow : OpenClaim := { program := "ytmgcnmdbhahhlaagreat", sum := "ec6e99d5dee388bba9ec3671f8868e961adc3ff7f9e163230d888b0d71c4eb39", func := "loop.example/g00851/laws.FnExactNetReport", spec := "fnExactNetReport", unfollowed := true, recurses := true, apart := false }
def FnExactNetReportSaid : Prop := fnExactNetReportRow.holds Tryz.pinned (OpenSpec.ofChange fnExactNetReportSpec)

/-- ITS FALSE NEIGHBOUR: 'it returns false'. Refute it at one input. -/
def fnExactNetReportWrong : ChangeSpec := { name := "fnExactNetReport", fn := fun _ => fun
  | [d] => { results := [.lit (.bool false)], args := [d] }
  | _ => none }
def FnExactNetReportWrongFalsely : Prop := fnExactNetReportRow.holds Tryz.pinned (OpenSpec.ofChange fnExactNetReportWrong)

/-- 'laws.FnExactLogReport': WHATEVER THE INPUT: true; the input reads as it did. -/
def fnExactLogReportSpec : ChangeSpec := { name := "fnExactLogReport", fn := fun _ => fun
  | [d] => { results := [.lit (.bool true)], args := [d] }
  | _ => none }
def fnExactLogReportRow : OpenClaim := { program := "ytmgcnmdbhahhlaagreat", sum := "ec6e99d5dee388bba9ec3671f8868e961adc3ff7f9e163230d888b0d71c4eb39", func := "loop.example/g00851/laws.FnExactLogReport", spec := "fnExactLogReport", unfollowed := true, recurses := true, apart := false }
def FnExactLogReportSaid : Prop := fnExactLogReportRow.holds Tryz.pinned (OpenSpec.ofChange fnExactLogReportSpec)

/-- ITS FALSE NEIGHBOUR: 'it returns false'. Refute it at one input. -/
def fnExactLogReportWrong : ChangeSpec := { name := "fnExactLogReport", fn := fun _ => fun
  | [d] => { results := [.lit (.bool false)], args := [d] }
  | _ => none }
def FnExactLogReportWrongFalsely : Prop := fnExactLogReportRow.holds Tryz.pinned (OpenSpec.ofChange fnExactLogReportWrong)

/-- 'laws.FnExactSchedReport': WHATEVER THE INPUT: true; the input reads as it did. -/
def fnExactSchedReportSpec : ChangeSpec := { name := "fnExactSchedReport", fn := fun _ => fun
  | [d1, d2] => { results := [.lit (.bool true)], args := [d1, d2] }
  | _ => none }
def fnExactSchedReportRow : OpenClaim := { program := "ytmgcnmdbhahhlaagreat", sum := "ec6e99d5dee388bba9ec3671f8868e961adc3ff7f9e163230d888b0d71c4eb39", func := "loop.example/g00851/laws.FnExactSchedReport", spec := "fnExactSchedReport", unfollowed := true, recurses := true, apart := false }
def FnExactSchedReportSaid : Prop := fnExactSchedReportRow.holds Tryz.pinned (OpenSpec.ofChange fnExactSchedReportSpec)

/-- ITS FALSE NEIGHBOUR: 'it returns false'. Refute it at one input. -/
def fnExactSchedReportWrong : ChangeSpec := { name := "fnExactSchedReport", fn := fun _ => fun
  | [d1, d2] => { results := [.lit (.bool false)], args := [d1, d2] }
  | _ => none }
def FnExactSchedReportWrongFalsely : Prop := fnExactSchedReportRow.holds Tryz.pinned (OpenSpec.ofChange fnExactSchedReportWrong)

/-- 'laws.FnExactStoreReport': WHATEVER THE INPUT: true; the input reads as it did. -/
def fnExactStoreReportSpec : ChangeSpec := { name := "fnExactStoreReport", fn := fun _ => fun
  | [d] => { results := [.lit (.bool true)], args := [d] }
  | _ => none }
def fnExactStoreReportRow : OpenClaim := { program := "ytmgcnmdbhahhlaagreat", sum := "ec6e99d5dee388bba9ec3671f8868e961adc3ff7f9e163230d888b0d71c4eb39", func := "loop.example/g00851/laws.FnExactStoreReport", spec := "fnExactStoreReport", unfollowed := true, recurses := true, apart := false }
def FnExactStoreReportSaid : Prop := fnExactStoreReportRow.holds Tryz.pinned (OpenSpec.ofChange fnExactStoreReportSpec)

/-- ITS FALSE NEIGHBOUR: 'it returns false'. Refute it at one input. -/
def fnExactStoreReportWrong : ChangeSpec := { name := "fnExactStoreReport", fn := fun _ => fun
  | [d] => { results := [.lit (.bool false)], args := [d] }
  | _ => none }
def FnExactStoreReportWrongFalsely : Prop := fnExactStoreReportRow.holds Tryz.pinned (OpenSpec.ofChange fnExactStoreReportWrong)

/-- 'laws.FnExactServedIn': WHATEVER THE INPUT: true; the input reads as it did. -/
def fnExactServedInSpec : ChangeSpec := { name := "fnExactServedIn", fn := fun _ => fun
  | [d] => { results := [.lit (.bool true)], args := [d] }
  | _ => none }
def fnExactServedInRow : OpenClaim := { program := "ytmgcnmdbhahhlaagreat", sum := "ec6e99d5dee388bba9ec3671f8868e961adc3ff7f9e163230d888b0d71c4eb39", func := "loop.example/g00851/laws.FnExactServedIn", spec := "fnExactServedIn", unfollowed := true, recurses := true, apart := false }
def FnExactServedInSaid : Prop := fnExactServedInRow.holds Tryz.pinned (OpenSpec.ofChange fnExactServedInSpec)

/-- ITS FALSE NEIGHBOUR: 'it returns false'. Refute it at one input. -/
def fnExactServedInWrong : ChangeSpec := { name := "fnExactServedIn", fn := fun _ => fun
  | [d] => { results := [.lit (.bool false)], args := [d] }
  | _ => none }
def FnExactServedInWrongFalsely : Prop := fnExactServedInRow.holds Tryz.pinned (OpenSpec.ofChange fnExactServedInWrong)

/- THE SECOND FORM. 'bulk': how many values and letters a reading holds, each counted each time it is reached (what is shared counts as often as it is met; a slice's spare places count too). A statement '..UptoSaid' is the law's where the arguments, and the package variables that the reading takes, are together of bulk at most 1048576: NARROWER than '..Said'. Prove '..Said' where nothing that the law and all that it calls make is longer than what came in: it says more and counts as full. Else prove '..UptoSaid'. A law counts once. -/
mutual
def uptoBulk {H : Type} : DataW H → Nat
  | .lit (.string bytes) => bytes.length + 1
  | .lit _ => 1
  | .nil => 1
  | .ptr d => uptoBulk d + 1
  | .slice elems spare => uptoBulkAll elems + uptoBulkAll spare + 1
  | .agg parts => uptoBulkAll parts + 1
  | .iface _ d => uptoBulk d + 1
  | .map entries => uptoBulkEntries entries + 1
  | .held _ => 1
def uptoBulkAll {H : Type} : List (DataW H) → Nat
  | [] => 0
  | d :: r => uptoBulk d + uptoBulkAll r
def uptoBulkEntries {H : Type} : List (Lit × DataW H) → Nat
  | [] => 0
  | x :: r => uptoBulkEntry x + uptoBulkEntries r
def uptoBulkEntry {H : Type} : Lit × DataW H → Nat
  | (.string bytes, d) => bytes.length + uptoBulk d + 1
  | (_, d) => uptoBulk d + 1
 end
def uptoSmall : (H : Type) → List (DataW H) → Bool := fun _ ds => decide (uptoBulkAll ds ≤ 1048576)
def OpenSpec.upto (s : _root_.Go.ChangeSpec) : _root_.Go.OpenSpec := { _root_.Go.OpenSpec.ofChange s with cond := some uptoSmall }

/-- 'laws.FnExactClientReport', WHERE WHAT IT READS IS OF BULK AT MOST 1048576: true; the input reads as it did. -/
def fnExactClientReportUptoRow : OpenClaim := { program := "ytmgcnmdbhahhlaagreat", sum := "ec6e99d5dee388bba9ec3671f8868e961adc3ff7f9e163230d888b0d71c4eb39", func := "loop.example/g00851/laws.FnExactClientReport", spec := "fnExactClientReport", unfollowed := true, recurses := true, apart := false, narrowed := true }
def FnExactClientReportUptoSaid : Prop := fnExactClientReportUptoRow.holds Tryz.pinned (OpenSpec.upto fnExactClientReportSpec)

/-- 'laws.FnExactNetReport', WHERE WHAT IT READS IS OF BULK AT MOST 1048576: true; the input reads as it did. -/
def fnExactNetReportUptoRow : OpenClaim := { program := "ytmgcnmdbhahhlaagreat", sum := "ec6e99d5dee388bba9ec3671f8868e961adc3ff7f9e163230d888b0d71c4eb39", func := "loop.example/g00851/laws.FnExactNetReport", spec := "fnExactNetReport", unfollowed := true, recurses := true, apart := false, narrowed := true }
def FnExactNetReportUptoSaid : Prop := fnExactNetReportUptoRow.holds Tryz.pinned (OpenSpec.upto fnExactNetReportSpec)

/-- 'laws.FnExactLogReport', WHERE WHAT IT READS IS OF BULK AT MOST 1048576: true; the input reads as it did. -/
def fnExactLogReportUptoRow : OpenClaim := { program := "ytmgcnmdbhahhlaagreat", sum := "ec6e99d5dee388bba9ec3671f8868e961adc3ff7f9e163230d888b0d71c4eb39", func := "loop.example/g00851/laws.FnExactLogReport", spec := "fnExactLogReport", unfollowed := true, recurses := true, apart := false, narrowed := true }
def FnExactLogReportUptoSaid : Prop := fnExactLogReportUptoRow.holds Tryz.pinned (OpenSpec.upto fnExactLogReportSpec)

/-- 'laws.FnExactSchedReport', WHERE WHAT IT READS IS OF BULK AT MOST 1048576: true; the input reads as it did. -/
def fnExactSchedReportUptoRow : OpenClaim := { program := "ytmgcnmdbhahhlaagreat", sum := "ec6e99d5dee388bba9ec3671f8868e961adc3ff7f9e163230d888b0d71c4eb39", func := "loop.example/g00851/laws.FnExactSchedReport", spec := "fnExactSchedReport", unfollowed := true, recurses := true, apart := false, narrowed := true }
def FnExactSchedReportUptoSaid : Prop := fnExactSchedReportUptoRow.holds Tryz.pinned (OpenSpec.upto fnExactSchedReportSpec)

/-- 'laws.FnExactStoreReport', WHERE WHAT IT READS IS OF BULK AT MOST 1048576: true; the input reads as it did. -/
def fnExactStoreReportUptoRow : OpenClaim := { program := "ytmgcnmdbhahhlaagreat", sum := "ec6e99d5dee388bba9ec3671f8868e961adc3ff7f9e163230d888b0d71c4eb39", func := "loop.example/g00851/laws.FnExactStoreReport", spec := "fnExactStoreReport", unfollowed := true, recurses := true, apart := false, narrowed := true }
def FnExactStoreReportUptoSaid : Prop := fnExactStoreReportUptoRow.holds Tryz.pinned (OpenSpec.upto fnExactStoreReportSpec)

/-- 'laws.FnExactServedIn', WHERE WHAT IT READS IS OF BULK AT MOST 1048576: true; the input reads as it did. -/
def fnExactServedInUptoRow : OpenClaim := { program := "ytmgcnmdbhahhlaagreat", sum := "ec6e99d5dee388bba9ec3671f8868e961adc3ff7f9e163230d888b0d71c4eb39", func := "loop.example/g00851/laws.FnExactServedIn", spec := "fnExactServedIn", unfollowed := true, recurses := true, apart := false, narrowed := true }
def FnExactServedInUptoSaid : Prop := fnExactServedInUptoRow.holds Tryz.pinned (OpenSpec.upto fnExactServedInSpec)

end Rows
end Go.Proofs.YtmgcnmdbhahhlaaGreat
