/- Proved: for every code, every fault is a script of valid steps, and inserting it keeps all other steps. No condition. -/
import Derived.Test.YtlmoekpinpafeaaGreatAvJ3
import Derived.Test.YtlmoekpinpafeaaGreatFaultImpl
import Derived.Test.YtlmoekpinpafeaaGreatWJFaults
set_option linter.unusedVariables false
set_option linter.unusedSimpArgs false
set_option maxRecDepth 100000
namespace Go.Proofs.YtlmoekpinpafeaaGreat.lawFaults
open Go.Proofs.Tryz
open Go.ChangeShapes Go.WideShapes Go.RowKit
theorem Og{w:World}:∀{l:List Int} {xs:List Value} {F:List Nat},(Rep.int .u8).all w xs l F->∀x∈l,0<=x/\x<=255
 |[],_,_,_,x,hx=>by cases hx
 |a::l,_,_,⟨c1,c2,F1,F2,rfl,rfl,h1,h2⟩,x,hx=>by
  rcases List.mem_cons.1 hx with rfl|hx
  ·have hw:=h1.2.1
   have e1:IntKind.u8.min=0:=ah
   have e2:IntKind.u8.max=255:=ah
   simp only[Lit.wf,Bool.and_eq_true,decide_eq_true_eq,e1,e2]at hw
   omega
  ·exact Og h2 x hx
set_option maxRecDepth 100000 in
theorem PR(os:Os)(started:os.Started)(H:Type)(enc:TypeId×Value->H):
  ReturnsInHanded {} Tryz.checked os 3 .any (Rows.fnFaultsSpec.pre6 enc Tryz.prog Tryz.f3 Rows.fnFaultsRow.domain false) (Rows.fnFaultsSpec.post enc Tryz.prog Tryz.f3 false true false false):=by
 refine law_lifted (C:=Tryz.checked) (tb:=4) ae started ae func3 ae ae rfl ae underlying4 ?_
  (ChangeSpec.witness6 (enc:=enc) (C:=Tryz.checked) false ⟨#[], #[.slice none 0 0],[]⟩ 12 ae ae ae ae) ?_
 ·intro ds h
  match ds,h with
  |[d],_=>rfl
 ·intro W base args ds p hval hA hfz
  rw[Tryz.params3]at hA hval
  obtain⟨v0,vs0,d0,ds0,p0,q0,hargs,rfl,rfl,h0,r0⟩:=trodAll_cons hA
  obtain⟨rfl,rfl,rfl⟩:=trodAll_nil r0
  obtain rfl:args= #[v0]:=by cases args;simp_all
  obtain⟨a0,len,cap,rfl⟩:=okWide_slice underlying22 (hval 0 22 v0 rfl rfl)
  obtain⟨fuel,hf⟩:=h0
  obtain⟨l,F,hrd⟩:=MN (R:=Rep.int .u8) underlying22 ae (JZ underlying5) H enc W 0 _ _ fuel _ _ hf
  have hrd0:=hrd
  obtain⟨A,cap0,xs,F1,hv,hc,hm,hrow,hall,rfl⟩:=hrd0
  exact(lawFaults_p l (Og hall)).walk trivial rfl λi p u hp hu=>by
   cases i with
   |zero=>
    simp at hp hu
    subst hp hu
    exact Enc.cell (f:=λl=> .sl (l.map eU)) (Enc.sl Enc.int) hrd
   |succ i=>simp at hp
theorem proved:Rows.FnFaultsSaid:=
 OpenClaim.holds_of_wide 3 Tryz.f3 rfl rfl rfl rfl rfl rfl rfl ⟨rfl,rfl,rfl,rfl,rfl⟩ rfl rfl rfl rfl rfl ae func3 yt
  (of_decide_eq_true ae) (by unfold Func.isWrapper;first|(rw[if_pos (by decide+kernel)];kernel_rfl)|(rw[if_neg (by decide+kernel)];exact⟨rfl,rfl⟩))
  (λos started H enc _=>PR os started H enc)
#print axioms proved
end Go.Proofs.YtlmoekpinpafeaaGreat.lawFaults
