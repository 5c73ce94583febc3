/- Proved: the program's TickedAll returns what the reference's returns, for every world. No condition. -/
import Derived.Test.YtknefkdcokgpbaaGreatTypes
import Derived.Test.YtknefkdcokgpbaaGreatWEq
import Derived.Test.YtknefkdcokgpbaaGreatTD
import Derived.Test.YtknefkdcokgpbaaGreatHe
import Derived.Test.YtknefkdcokgpbaaGreatWJTickedAll
import Derived.Test.YtknefkdcokgpbaaGreatAvQ
set_option linter.unusedVariables false
set_option linter.unusedSimpArgs false
set_option maxRecDepth 100000
namespace Go.Proofs.YtknefkdcokgpbaaGreat.lawTickedAll
open Go.Proofs.Tryz
open Go.ChangeShapes Go.WideShapes Go.RowKit
set_option maxRecDepth 100000 in
theorem lifted(os:Os)(started:os.Started)(H:Type)(enc:TypeId×Value->H):
  ReturnsInHanded {} Tryz.checked os 3 .any (Rows.fnExactTickedAllSpec.pre6 enc Tryz.prog Tryz.f3 Rows.fnExactTickedAllRow.domain false) (Rows.fnExactTickedAllSpec.post enc Tryz.prog Tryz.f3 false true false false):=by
 refine law_lifted (C:=Tryz.checked) (tb:=4) ae started ae func3 ae ae rfl ae underlying4 ?_
  (ChangeSpec.witness6 (enc:=enc) (C:=Tryz.checked) false ⟨#[], #[.agg #[(.slice none 0 0),(.slice none 0 0),(.slice none 0 0),(.slice none 0 0),(.int .i64 0),(.int .i64 0),(.int .i64 0),(.slice none 0 0),(.int .i64 0),(.int .i64 0),(.int .i64 0),(.slice none 0 0),(.bool false),(.int .i64 0),(.int .i64 0),(.slice none 0 0),(.slice none 0 0),(.int .i64 0),(.slice none 0 0),(.slice none 0 0),(.slice none 0 0),(.int .i64 0),(.int .i64 0),(.slice none 0 0),(.slice none 0 0),(.int .i64 0),(.int .i64 0),(.int .i64 0),(.int .i64 0),(.int .i64 0),(.int .i64 0),(.int .i64 0),(.int .i64 0),(.int .i64 0),(.int .i64 0),(.int .i64 0),(.int .i64 0),(.int .i64 0),(.slice none 0 0),(.bool false),(.int .i64 0),(.int .i64 0),(.int .i64 0),(.int .i64 0),(.int .i64 0),(.int .i64 0),(.int .i64 0),(.int .i64 0),(.int .i64 0),(.int .i64 0),(.int .i64 0),(.int .i64 0),(.int .i64 0),(.slice none 0 0),(.bool false),(.int .i64 0),(.int .i64 0),(.int .i64 0),(.int .i64 0),(.int .i64 0),(.int .i64 0),(.int .i64 0),(.slice none 0 0),(.slice none 0 0),(.int .i64 0),(.int .i64 0),(.slice none 0 0),(.slice none 0 0),(.int .i64 0),(.slice none 0 0),(.slice none 0 0),(.slice none 0 0),(.slice none 0 0)]],[]⟩ 12 ae ae ae ae) ?_
 ·intro ds h
  match ds,h with
  |[d],_=>rfl
 ·intro W base args ds p hval hA hfz
  rw[Tryz.params3]at hA hval
  obtain⟨v0,vs0,d0,ds0,p0,q0,hargs,rfl,rfl,h0,r0⟩:=trodAll_cons hA
  obtain⟨rfl,rfl,rfl⟩:=trodAll_nil r0
  obtain rfl:args= #[v0]:=by cases args;simp_all
  obtain⟨cs,rfl,_⟩:=okWide_struct underlying65 (hval 0 65 v0 rfl rfl)
  obtain⟨fuel,hf⟩:=h0
  obtain⟨o,F,hrd⟩:=D8 H enc W 0 _ _ fuel _ _ hf
  exact(lawTickedAll_p o (OM.h hrd)).walk trivial rfl λi p u hp hu=>by
   cases i with
   |zero=>
    simp at hp hu
    subst hp hu
    exact Enc.agg (f:=DWorld.ds) aaj hrd
   |succ i=>simp at hp
theorem proved:Rows.FnExactTickedAllSaid:=
 OpenClaim.holds_of_wide 3 Tryz.f3 rfl rfl rfl rfl rfl rfl rfl ⟨rfl,rfl,rfl,rfl,rfl⟩ rfl rfl rfl rfl rfl ae func3 xU
  (of_decide_eq_true ae) (by unfold Func.isWrapper;first|(rw[if_pos (by decide+kernel)];kernel_rfl)|(rw[if_neg (by decide+kernel)];exact⟨rfl,rfl⟩))
  (λos started H enc _=>lifted os started H enc)
#print axioms proved
end Go.Proofs.YtknefkdcokgpbaaGreat.lawTickedAll
