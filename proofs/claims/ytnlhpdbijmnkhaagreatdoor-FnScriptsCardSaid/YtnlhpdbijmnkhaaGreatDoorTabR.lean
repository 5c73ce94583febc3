/- TabR -/
import Derived.Test.YtnlhpdbijmnkhaaGreatDoorText1
set_option linter.unusedVariables false
set_option linter.unusedSimpArgs false
set_option maxRecDepth 100000
namespace Go.Proofs.YtnlhpdbijmnkhaaGreatDoor
open Go.RowKit
def uD(w:World):Prop:=Tab w/\∃m,w.cell? ⟨0,0,none⟩=some (.int .i64 m)
theorem uD.below{w w':World}(h:uD w)(hb:Below w.heap.size w w'):uD w':=by
 obtain⟨h1,m,hm⟩:=h
 refine⟨h1.below hb,m,?_⟩
 have hlt:0<w.heap.size:=by
  rcases Nat.eq_zero_or_pos w.heap.size with h|h
  ·rw[World.cell?]at hm
   simp[Array.getElem?_eq_none (by omega:w.heap.size<=0)]at hm
  ·exact h
 exact(World.cell?_of_block (a:=⟨0,0,none⟩) (hb.block 0 hlt)).trans hm
end Go.Proofs.YtnlhpdbijmnkhaaGreatDoor
