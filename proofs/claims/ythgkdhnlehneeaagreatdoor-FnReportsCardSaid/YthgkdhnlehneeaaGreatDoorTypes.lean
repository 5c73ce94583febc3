/- Types -/
import Derived.Test.YthgkdhnlehneeaaGreatDoorNum
import Derived.StillTailTactics
import Derived.Deep.QuietTactic
import Derived.BigQuiet
import Derived.Outline
import Derived.Deep.Draws
set_option maxHeartbeats 8000000
set_option linter.unusedVariables false
set_option linter.unusedSimpArgs false
set_option maxRecDepth 100000
namespace Go.Proofs.YthgkdhnlehneeaaGreatDoor
open Go.ChangeShapes Go.WideShapes Go.RowKit
structure ou where
 kind:Int
 a:Int
 b:Int
 c:Int
 fates:(List Int)
 deriving DecidableEq
structure DOp where
 kind:Int
 a:Int
 b:Int
 c:Int
 d:Int
 deriving DecidableEq
structure aO where
 index:Int
 time:Int
 client:Int
 seq:Int
 op:DOp
 deriving DecidableEq
structure cX where
 frm:Int
 to_:Int
 row:(List Int)
 deriving DecidableEq
structure dJ where
 a:Int
 b:Int
 deriving DecidableEq
structure ee where
 flight:(List cX)
 cuts:(List dJ)
 deriving DecidableEq
structure dD where
 kind:Int
 op:DOp
 key:Int
 deriving DecidableEq
section
def xq{α:Type}(R:Rep α)(e:TypeId)(B:Nat)(w:World)(v:Value)(n:Nat)(l:List α):Prop:=
 n=l.length/\∃xs F,w.ownsRow B e R.size v n xs/\R.all w xs l F/\gW B w F/\(∀b∈F,v.ownBlock≠some b)
section
variable {α:Type} {R:Rep α} {e:TypeId} {B:Nat} {w w':World} {v:Value} {n:Nat} {l:List α}
theorem xq.keep(h:xq R e B w v n l)(hk:∀b,B<=b->b<w.heap.size->w'.heap[b]? =w.heap[b]?):xq R e B w' v n l:=by
 obtain⟨hn,xs,F,ho,ha,hf,hd⟩:=h;have hF:∀b∈F,w'.heap[b]? =w.heap[b]? :=λb hb=>hk b (hf.2 b hb).1 (hf.lt b hb);refine⟨hn,xs,F,⟨ho.1,?_⟩,abh ha hF,hf.keep hF,hd⟩;rcases ho.2 with h|⟨g,cap,cur,hv,hb,hg,r⟩
 ·exact .inl h
 ·exact .inr ⟨g,cap,cur,hv,hb,(hk g hb (Array.getElem?_eq_some_iff.1 hg).1).trans hg,r⟩
theorem xq.below(h:xq R e B w v n l)(hb:Below w.heap.size w w'):xq R e B w' v n l:=h.keep λb _ hl=>hb.block b hl
theorem xq.alloc(h:xq R e B w v n l)(o:Obj):xq R e B (w.alloc o) v n l:=h.keep λb _ hl=>Below.heap_alloc w o b hl
theorem xq.drew(h:xq R e B w v n l):xq R e B w.drew v n l:=h.keep λ_ _ _=>rfl
theorem xq.out{A:Option Addr}{cap:Nat}{w0:World}(h:xq R e w0.heap.size w (.slice A n cap) n l)(hb:Below w0.heap.size w0 w):VS R l w0 (.returned (.slice A n cap)) w:=by
 obtain⟨rfl,xs,F,ho,ha,hf,hd⟩:=h;obtain⟨A',cap',e1,hrd,hh⟩:=ab3 (R:=R) ho ha rfl;injection e1 with e1 _ e2
 subst e1 e2;refine⟨A,cap,_,rfl,hrd,(gW.own ho rfl).join hf (λb hb hb'=>hd b hb' (hh b hb).1),hb⟩
end
section
variable {α:Type} {P:Program}
end
end
section
variable {w w':World}
theorem Lb{B:Nat}{a:World}(h:Below B a w)(n:Nat):Below B a (w.drewN n):=⟨h.os,h.tape,h.output,h.size,h.block⟩
def KR(w w':World):Prop:=∃n,w'=w.drewN n
theorem KR.drewN(h:KR w w')(n:Nat):KR w (w'.drewN n):=by
 obtain⟨m,rfl⟩:=h;exact⟨m+n,World.drewN_drewN _ _ _⟩
theorem KR.below(h:KR w w')(B:Nat):Below B w w':=by
 obtain⟨m,rfl⟩:=h;exact Lb (Below.refl _ _) m
end
end Go.Proofs.YthgkdhnlehneeaaGreatDoor
