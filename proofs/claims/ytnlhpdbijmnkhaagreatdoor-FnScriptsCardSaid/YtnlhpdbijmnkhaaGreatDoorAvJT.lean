/- AvJT -/
import Derived.Test.YtnlhpdbijmnkhaaGreatDoorAvJS
import Derived.Laws.StructEq
set_option linter.unusedVariables false
set_option linter.unusedSimpArgs false
set_option maxRecDepth 100000
namespace Go.Proofs.YtnlhpdbijmnkhaaGreatDoor
open Go.ChangeShapes Go.WideShapes Go.RowKit
end Go.Proofs.YtnlhpdbijmnkhaaGreatDoor
namespace Go.Proofs.YtnlhpdbijmnkhaaGreatDoor
open Go.ChangeShapes Go.WideShapes Go.RowKit
abbrev BQ(l:List DStep):AD:= .sl (l.map DStep.ds)
end Go.Proofs.YtnlhpdbijmnkhaaGreatDoor
namespace Go.Proofs.YtnlhpdbijmnkhaaGreatDoor
open Go.ChangeShapes Go.WideShapes Go.RowKit
def eV(l:List UInt8):List (List AD):=l.map λb=>[.pv (.int .u8 b.toNat)]
theorem sw(l:List UInt8):cD ⟨l.toArray⟩=eV l:=by simp[cD,eV]
theorem mE(l m:List UInt8):eV (l++m)=eV l++eV m:=by simp[eV]
theorem yi(l:List UInt8):(eV l).length=l.length:=by simp[eV]
def dA(x:DStep):List UInt8:=ap x++[10]
def fy(l:List DStep):Bool:=decide (l.length<=600)&&l.all ar
def cN(l:List DStep):List UInt8:=if fy l then l.flatMap dA else []
theorem Aw(l:List DStep):(l.flatMap dA).length<=1001*l.length:=by
 induction l with
 |nil=>simp
 |cons x r ih=>
  have:=gW x
  simp only[List.flatMap_cons,List.length_append,List.length_cons,dA,List.length_nil]
  omega
theorem xA{l:List DStep}{k:Nat}(hk:k<l.length)(h:ar l[k]=false):fy l=false:=by
 simp only[fy,Bool.and_eq_false_iff]
 refine .inr ?_
 rw[<-Bool.not_eq_true,List.all_eq_true]
 intro hall
 have:=hall l[k] (List.getElem_mem hk)
 rw[h]at this
 cases this
theorem vE{l:List DStep}(h:l.length<=600)(hall:∀(j:Nat) (hj:j<l.length),ar l[j]=true):fy l=true:=by
 simp only[fy,Bool.and_eq_true,decide_eq_true_eq,List.all_eq_true]
 refine⟨h,λx hx=>?_⟩
 obtain⟨j,hj,rfl⟩:=List.getElem_of_mem hx
 exact hall j hj
theorem oE{l:List DStep}{k:Nat}(hk:k<l.length):(l.take (k+1)).flatMap dA=(l.take k).flatMap dA++dA l[k]:=by
 rw[<-List.take_append_getElem hk,List.flatMap_append];simp
theorem uy(l:List UInt8):((⟨l.toArray⟩:ByteArray).toList==(⟨#[]⟩:ByteArray).toList)=decide (l=[]):=by
 rw[<-beq_toListBytes]
 cases l<;>rfl
end Go.Proofs.YtnlhpdbijmnkhaaGreatDoor
