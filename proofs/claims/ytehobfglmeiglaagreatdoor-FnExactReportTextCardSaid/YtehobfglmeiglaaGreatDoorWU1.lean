/- WU1 -/
import Derived.Test.YtehobfglmeiglaaGreatDoorJ23
import Derived.Test.YtehobfglmeiglaaGreatDoorJ24
import Derived.Test.YtehobfglmeiglaaGreatDoorJ25
import Derived.Test.YtehobfglmeiglaaGreatDoorText1
set_option linter.unusedVariables false
set_option linter.unusedSimpArgs false
set_option maxRecDepth 100000
namespace Go.Proofs.YtehobfglmeiglaaGreatDoor
open Go.ChangeShapes Go.WideShapes Go.RowKit
def ci(w:DWorld)(k:Nat):List Int:=
 match k with
 |0=>aM w
 |1=>aH w
 |2=>ar w 2
 |3=>ar w 3
 |4=>ax w 4
 |5=>ax w 5
 |_=>aV w
def iA(l:List Int):Prop:=l.length<=11/\∀x∈l,0<=x/\x<=1000000000
theorem i6:iA []:=⟨by simp,λx hx=>by simp at hx⟩
theorem yp(b:Bool):0<=xd b/\xd b<=1:=by cases b<;>simp[xd]
theorem C2{w:DWorld}(hs:DWorld.small 1048576 w):iA (aM w):=by
 unfold aM
 split
 ·rename_i h
  rw[Bool.and_eq_true]at h
  have hb:=tz h.1 h.2
  have hl:=wT h.1 h.2
  have hd:=zf hl
  have ho:w.log.owe.length<=1048576:=hs.1.2.2.2.2.2
  have hm:=yp w.log.more
  simp only[bd,ai,Bool.and_eq_true,decide_eq_true_eq]at hb
  refine⟨by simp[xz],λx hx=>?_⟩
  simp only[xz,bO,List.mem_cons,List.not_mem_nil,or_false]at hx
  rcases hx with rfl|rfl|rfl|rfl|rfl<;>omega
 ·exact i6
theorem yN{w:DWorld}(hs:DWorld.small 1048576 w):iA (aH w):=by
 unfold aH
 split
 ·rename_i h
  rw[Bool.and_eq_true]at h
  have hl:=rA h.1 h.2
  have hi:=zT hl
  have hp:w.store.state.pairs.length<=1048576:=hs.2.1.2.1
  have hj:w.store.state.jobs.length<=1048576:=hs.2.1.2.2
  have h1:=List.length_filter_le cz w.store.state.jobs
  have h2:=List.length_filter_le eh w.store.state.jobs
  simp only[dH,bH,tOk,ai,Bool.and_eq_true,Bool.or_eq_true,beq_iff_eq,decide_eq_true_eq]at hl
  refine⟨by simp[kk],λx hx=>?_⟩
  simp only[kk,List.mem_cons,List.not_mem_nil,or_false]at hx
  rcases hx with rfl|rfl|rfl|rfl|rfl|rfl|rfl<;>omega
 ·exact i6
theorem gk{w:DWorld}(h:ay w=true):ct w.left=true/\ct w.right=true/\bn w.ann=true/\bn w.bob=true:=by
 simp only[ay,bQ,Bool.and_eq_true]at h
 exact⟨h.1.1.1.2.1.1,h.1.1.2.1.1,h.1.1.1.1.1.1.1.2,h.1.1.1.1.1.2⟩
theorem pf{s:DSched}(h:ct s=true):iA (fD s):=by
 have hm:=yp s.busy
 simp only[ct,g6,ai,Bool.and_eq_true,decide_eq_true_eq]at h
 refine⟨by simp[fD],λx hx=>?_⟩
 simp only[fD,List.mem_cons,List.not_mem_nil,or_false]at hx
 rcases hx with rfl|rfl|rfl|rfl<;>omega
theorem qN{w:DWorld}(n:Int):iA (ar w n):=by
 unfold ar
 repeat' split
 all_goals first
  |exact i6
  |(rename_i h;rw[Bool.and_eq_true]at h;first|exact pf (gk h.1).1|exact pf (gk h.1).2.1)
theorem qG{c:DClient}(h:bn c=true):∀k,k<=c.gots.length->0<=fy c.gots k/\fy c.gots k<=2000
 |0,_=>by simp[fy]
 |k+1,hk=>by
  have ih:=qG h k Mo
  simp only[bn,Bool.and_eq_true]at h
  have hg:=Ea h.1.2 (k:=k) Mo
  simp only[nR,ai,Bool.and_eq_true,decide_eq_true_eq]at hg
  simp only[fy]
  omega
theorem nP{c:DClient}(h:bn c=true):iA (dA c):=by
 have hl:=qG h _ (Nat.le_refl _)
 simp only[bn,Bool.and_eq_true,decide_eq_true_eq,beq_iff_eq]at h
 refine⟨by simp[dA],λx hx=>?_⟩
 simp only[dA,List.mem_cons,List.not_mem_nil,or_false]at hx
 rcases hx with rfl|rfl|rfl<;>omega
theorem pe{w:DWorld}(n:Int):iA (ax w n):=by
 unfold ax
 repeat' split
 all_goals first
  |exact i6
  |(rename_i h;first|exact nP (gk h).2.2.1|exact nP (gk h).2.2.2)
theorem C3{w:DWorld}:iA (aV w):=by
 unfold aV
 split
 ·rename_i h
  have hn:=qy h
  obtain⟨h1,h2⟩:=dC w.net.flight w.net.flight.length (Nat.le_refl _)
  rw[List.take_length]at h1 h2
  refine⟨by simp[uL,h1],λx hx=>?_⟩
  simp only[uL,List.mem_append,List.mem_cons,List.not_mem_nil,or_false]at hx
  rcases hx with hx|rfl
  ·have:=h2 x hx;omega
  ·omega
 ·exact i6
theorem tW{w:DWorld}(hs:DWorld.small 1048576 w)(k:Nat):iA (ci w k):=by
 unfold ci
 split
 ·exact C2 hs
 ·exact yN hs
 ·exact qN 2
 ·exact qN 3
 ·exact pe 4
 ·exact pe 5
 ·exact C3
theorem xM{a b:ByteArray}{Q:Prop}(h:a.data.toList.length+b.data.toList.length<=9223372036854775807)(q:Q):a.size+b.size<=9223372036854775807/\Q:=⟨by simpa using h,q⟩
def fb(name:List UInt8)(l:List Int):List UInt8:=if l=[]then name++[32,100,111,119,110,10]else name++(bK l++[10])
def bf:List (List UInt8):=[[108,111,103],[115,116,111,114,101],[108,101,102,116],[114,105,103,104,116],[97,110,110],[98,111,98],[110,101,116]]
def txt(w:DWorld)(k:Nat):List UInt8:=(List.range k).flatMap λj=>fb (bf.getD j []) (ci w j)
def bM(w:DWorld):List UInt8:=if ay w then txt w 7 else []
theorem qp{k:Nat}(h:k<bf.length):bf[k].length<=5:=by
 have h7:k<7:=h
 have:k=0\/k=1\/k=2\/k=3\/k=4\/k=5\/k=6:=by omega
 rcases this with rfl|rfl|rfl|rfl|rfl|rfl|rfl<;>simp[bf]
theorem mM(w:DWorld){k:Nat}(h:k<bf.length):txt w (k+1)=txt w k++fb bf[k] (ci w k):=by
 unfold txt
 rw[List.range_succ,List.flatMap_append]
 have e:bf[k]?.getD []=bf[k]:=by rw[List.getElem?_eq_getElem h];rfl
 simp[e]
theorem sZ{l:List Int}(h:iA l):∀x∈l,(Lit.int .i64 x).wf=true:=by
 intro x hx
 have:=h.2 x hx
 simp only[Lit.wf,IntKind.min,IntKind.max,IntKind.signed,IntKind.bits,Bool.and_eq_true,decide_eq_true_eq]
 constructor<;>simp<;>omega
theorem pX:∀{l:List Int},l≠ []->bK l=32::bi [32] (l.map Lib.itoa)
 |[],h=>absurd rfl h
 |[a],_=>by simp[bK,bi]
 |a::b::r,_=>by
  have:=pX (l:=b::r) Mr
  have e:bi [32] (List.map Lib.itoa (a::b::r))=Lib.itoa a++([32]++bi [32] (List.map Lib.itoa (b::r))):=rfl
  have e2:bK (a::b::r)=32::(Lib.itoa a++bK (b::r)):=by simp[bK]
  rw[e,e2,this]
  rfl
end Go.Proofs.YtehobfglmeiglaaGreatDoor
