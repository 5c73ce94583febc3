/- LawReportsA -/
import Derived.Test.YthgkdhnlehneeaaGreatDoorAvLD
import Derived.Test.YthgkdhnlehneeaaGreatDoorCards
import Derived.Test.YthgkdhnlehneeaaGreatDoorTie
import Derived.SevenTiedAt
import Derived.MakeChecks
import Derived.Lay
set_option maxHeartbeats 8000000
set_option linter.unusedVariables false
set_option linter.unusedSimpArgs false
namespace Go.Proofs.YthgkdhnlehneeaaGreatDoor.lawReports
open Go.ChangeShapes Go.WideShapes Go.RowKit
theorem Tj(os:Os)(args:Array Value):laidMetH Tryz.prog Rows.fnReportsRow.laid ((World.laidAll Tryz.prog os Rows.fnReportsRow.laid).forCall (λ_ _=>0) ⟨#[],args,[]⟩).memory:=
 by rw[MakeChecks.laidMetH_plain _ _ _ (by kernel_rfl)];exact laidMet_laidAll _ (by kernel_rfl) (by kernel_rfl)
theorem WZ{W:World}(h:laidMetH Tryz.prog Rows.fnReportsRow.laid W):Tab W:=by
 rw[MakeChecks.laidMetH_plain _ _ _ (by kernel_rfl)]at h;exact Nm rfl (by kernel_rfl) h
noncomputable abbrev w00 (os:Os):World:=(World.laidAll Tryz.prog os Rows.fnReportsRow.laid).forCall (λ_ _=>0) ⟨#[], #[.slice none 0 0],[]⟩
set_option maxRecDepth 100000 in
theorem Xv:ownKnob Tryz.checked.prog.godebug=none:=by kernel_rfl
set_option maxRecDepth 100000 in
theorem WB:Tryz.checked.prog.inits.idxOf? 3=none:=by kernel_rfl
set_option maxRecDepth 100000 in
theorem WC:laidOutB Tryz.checked.prog=true:=by kernel_rfl
set_option maxRecDepth 100000 in
theorem WD:(Tryz.f3.params.toList.all λt=>Tryz.checked.prog.readableRec t&&decide (t<Tryz.checked.prog.types.size))=true:=by kernel_rfl
set_option maxRecDepth 100000 in
theorem Xx:Tryz.f3.resultTypes= #[4]:=by kernel_rfl
set_option maxRecDepth 100000 in
theorem WE(os:Os):(w00 os).variablesZipB Tryz.checked.prog=true:=by kernel_rfl
set_option maxRecDepth 100000 in
theorem WF(os:Os):((w00 os).heap.toList.drop Tryz.checked.prog.globals.size).take ((begin Tryz.checked.prog (λ_ _=>0) default).world.heap.size-Tryz.checked.prog.globals.size)=(begin Tryz.checked.prog (λ_ _=>0) default).world.heap.toList.drop Tryz.checked.prog.globals.size:=by kernel_rfl
set_option maxRecDepth 100000 in
theorem Zj(os:Os):Input.okWideB Tryz.checked.prog (w00 os) 3 ⟨#[], #[.slice none 0 0],[]⟩=true:=by kernel_rfl
set_option maxRecDepth 100000 in
theorem Xw(os:Os){H:Type}(enc:TypeId×Value->H):Rows.fnReportsSpec.preB enc Tryz.checked.prog Tryz.f3 [] false (w00 os).memory #[.slice none 0 0] 8=true:=by kernel_rfl
set_option maxRecDepth 100000 in
theorem Zk(os:Os){H:Type}(enc:TypeId×Value->H):Rows.fnReportsSpec.sizedB enc Tryz.checked.prog Tryz.f3 false (w00 os).memory #[.slice none 0 0] 8=true:=by kernel_rfl
end Go.Proofs.YthgkdhnlehneeaaGreatDoor.lawReports
