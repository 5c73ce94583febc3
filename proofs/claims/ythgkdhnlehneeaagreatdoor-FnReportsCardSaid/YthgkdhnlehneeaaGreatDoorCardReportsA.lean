/- CardReportsA -/
import Derived.Test.YthgkdhnlehneeaaGreatDoorLawReports
set_option maxHeartbeats 8000000
namespace Go.Proofs.YthgkdhnlehneeaaGreatDoor.lawReports
open Go
variable {P:Program}
theorem HW(h:P.funcs.any Func.goes=false)(f:FuncId):P.goes f=false:=by
 have h1:∀g:FuncId,(P.funcs[g]?).any Func.goes=false:=by
  intro g;cases e:P.funcs[g]? with
  |none=>rfl
  |some fn=>
   obtain⟨hlt,he⟩:=Array.getElem?_eq_some_iff.1 e;have:=Array.any_eq_false.1 h g hlt;rw[he]at this;simpa using this
 unfold Program.goes;rw[h,Bool.and_false,Bool.or_false,List.any_eq_false];intro g _;simp[h1 g]
theorem Ls(h:P.funcs.any Func.goes=false)(c:OpenClaim):false=c.goesBy P:=by
 have h1:P.goesFrom c.func=false:=by
  unfold Program.goesFrom;cases P.funcNamed c.func with
  |none=>rfl
  |some f=>exact HW h f
 have h2:P.inits.toList.any P.goes=false:=by
  rw[List.any_eq_false];intro g _;simp[HW h g]
 unfold OpenClaim.goesBy Program.goesAt;rw[h1,h2];cases c.start<;>rfl
set_option maxRecDepth 100000 in
theorem RH:Tryz.pinned.checked.prog.funcs.any Func.goes=false:=by kernel_rfl
theorem Rc:false=Rows.fnReportsRow.goesBy Tryz.pinned.checked.prog:=Ls RH _
end Go.Proofs.YthgkdhnlehneeaaGreatDoor.lawReports
