/- WU4 -/
import Derived.Test.YtehobfglmeiglaaGreatDoorWU1
import Derived.Test.YtehobfglmeiglaaGreatDoorJ26
import Derived.Test.YtehobfglmeiglaaGreatDoorAwx
import Derived.Test.YtehobfglmeiglaaGreatDoorMkB
set_option linter.unusedVariables false
set_option linter.unusedSimpArgs false
set_option maxRecDepth 100000
namespace Go.Proofs.YtehobfglmeiglaaGreatDoor
open Go.Proofs.Tryz
open Go.ChangeShapes Go.WideShapes Go.RowKit
theorem y8{x:Int}(h:0<=x/\x<=1000000000):(Lib.itoa x).length<=21:=by
 have:=ik [x] (by intro y hy;simp at hy;subst hy;simp[Lit.wf,IntKind.min,IntKind.max,IntKind.signed,IntKind.bits];omega)
 simp[bK]at this
 omega
theorem kt:∀{l:List (List UInt8)},(∀x∈l,x.length<=21)->(bi [32] l).length<=22*l.length
 |[],_=>by simp[bi]
 |[a],h=>by have:=h a Mr;simp[bi];omega
 |a::b::r,h=>by
  have h1:=h a Mr
  have:=kt (l:=b::r) λx hx=>h x (by simp[hx])
  simp only[bi,List.length_append,List.length_cons,List.length_nil]at this⊢
  omega
theorem Dl(l:List Int)(h:iA l):aj av 68 [.one (.sl (l.map eI))] (rL (bi [32] (l.map Lib.itoa))):=by
 have hl:=h.1
 refine ae ah func68 rfl call68 ntmps68 (MC results68) λS=>?_;conv=>whnf
 repeat'((first|refine aw0 ?_|refine awx ?_|exact rr|refine And.intro rfl ?_|refine AB.mk (λh=>?_) (λh=>?_))<;>conv=>whnf)
 refine AWP.loopS (λk:Nat=>k<=l.length) (5::[3,4,6,7,8,9,10,11,12,13,14,15,16,17,18,19]) (λk=>[(3,.one (.own 5)),(4,vI .i64 (k:Int))]) (λk=>[(5,.row 9 1 (((l.take k).map Lib.itoa).map eS))]) (λk=>l.length-k) 0 Mo ?_ (ak.cons rfl ak.nil) (λk hR=>?_)<;>(conv=>whnf)
 ·exact whd
 ·by_cases hlt:k<l.length
  ·have hx:=h.2 l[k] (List.getElem_mem hlt)
   have hc:decide ((k:Int)<((l.map eI).length:Int))=true:=by simp;omega
   repeat'((first|refine aw0 ?_|refine awx ?_|refine AIx.map hlt ?_|refine cP (wy _ hx.1 Mo) ?_|refine ce (by simp[eS]) ?_|refine dJ Mv ?_|refine AW.i64 Mo Mo ?_|exact rr|refine And.intro rfl ?_|refine AB.mk (λh=>?_) (λh=>?_))<;>conv=>whnf)
   refine aB.mk ⟨k+1,hlt,by omega,?_,ak.cons (congrArg some (congrArg (AO.row 9 1) (by rw[kn hlt,List.map_append,List.map_append];rfl))) ak.nil⟩
   exact hds
  ·have e:k=l.length:=by omega
   subst e
   have hc:decide ((l.length:Int)<((l.map eI).length:Int))=false:=by simp
   have hw:=kt (l:=l.map Lib.itoa) (λx hx=>by obtain⟨y,hy,rfl⟩:=List.mem_map.1 hx;exact y8 (h.2 y hy))
   rw[List.length_map]at hw
   rw[List.take_length]
   repeat'((first|refine aw0 ?_|refine awx ?_|refine aa.scalar (Bw (l.map Lib.itoa) [32] Mv Mo Mr) rfl rfl ?_|exact rr|refine And.intro rfl ?_|refine AB.mk (λh=>?_) (λh=>?_))<;>conv=>whnf)
theorem uo(name:List UInt8)(hn:name.length<=5)(l:List Int)(h:iA l):aj av 23 [pL name,.one (.sl (l.map eI))] (rL (fb name l)):=by
 cases l with
 |nil=>
  have e:fb name []=name++[32,100,111,119,110,10]:=rfl
  rw[e]
  refine ae ah func23 rfl call23 ntmps23 (MC results23) λS=>?_;conv=>whnf
  repeat'((first|refine aw0 ?_|refine awx ?_|refine xM Mv ?_|exact rr|refine And.intro rfl ?_|refine AB.mk (λh=>?_) (λh=>?_))<;>conv=>whnf)
  simp only[AP.val.injEq,AP1.one.injEq,AD.pv.injEq,Value.string.injEq]
  apply ByteArray.ext
  simp
 |cons x r=>
  have e:fb name (x::r)=name++([32]++bi [32] ((x::r).map Lib.itoa)++[10]):=by
   rw[fb,if_neg Mr,pX Mr]
   simp
  have hw:=kt (l:=(x::r).map Lib.itoa) (λy hy=>by obtain⟨z,hz,rfl⟩:=List.mem_map.1 hy;exact y8 (h.2 z hz))
  have hl:=h.1
  rw[List.length_map]at hw
  have hp:=Dl (x::r) h
  rw[e]
  clear e
  generalize bi [32] ((x::r).map Lib.itoa)=W at hp hw⊢
  have hc:decide ((((x::r).map eI).length:Int)=0)=false:=by simp;omega
  refine ae ah func23 rfl call23 ntmps23 (MC results23) λS=>?_;conv=>whnf
  repeat'((first|refine aw0 ?_|refine awx ?_|refine cP (hp) ?_|refine xM My ?_|exact rr|refine And.intro rfl ?_|refine AB.mk (λh=>?_) (λh=>?_))<;>conv=>whnf)
  simp only[AP.val.injEq,AP1.one.injEq,AD.pv.injEq,Value.string.injEq]
  apply ByteArray.ext
  simp
end Go.Proofs.YtehobfglmeiglaaGreatDoor
