/- J20 -/
import Derived.Test.YtehobfglmeiglaaGreatDoorJ03
import Derived.StillTailTactics
import Derived.Deep.QuietTactic
import Derived.BigQuiet
import Derived.Outline
import Derived.Deep.Draws
import Derived.Test.YtehobfglmeiglaaGreatDoorJ01
import Derived.Lib.Builder
import Derived.Lib.AppendStr
import Derived.Lib.UnsafeStr
import Derived.Laws.Externs
import Derived.OwnWalk
set_option linter.unusedVariables false
set_option linter.unusedSimpArgs false
set_option maxRecDepth 100000
namespace Go.Proofs.YtehobfglmeiglaaGreatDoor
open Go.Proofs.Tryz
open Go.ChangeShapes Go.WideShapes Go.RowKit
def gp{α:Type}(R:Rep α)(e:TypeId)(B:Nat)(w:World)(v:Value)(n:Nat)(l:List α):Prop:=
 n=l.length/\∃xs F,w.ownsRow B e R.size v n xs/\R.all w xs l F/\cq B w F/\(∀b∈F,v.ownBlock≠some b)
section
variable {α:Type} {R:Rep α} {e:TypeId} {B:Nat} {w w':World} {v:Value} {n:Nat} {l:List α}
theorem gp.empty(R:Rep α)(e:TypeId){B:Nat}(w:World)(hB:B<=w.heap.size):gp R e B (w.alloc (.cells #[] e)) (.slice (some ⟨w.heap.size,0,none⟩) 0 0) 0 []:=
 ⟨rfl,[],[],World.ownsRow_made w #[] 0 hB (Nat.zero_le _) Mr,⟨rfl,rfl⟩,cq.nil _ _,by simp⟩
theorem gp.keep(h:gp R e B w v n l)(hk:∀b,B<=b->b<w.heap.size->w'.heap[b]? =w.heap[b]?):gp R e B w' v n l:=by
 obtain⟨hn,xs,F,ho,ha,hf,hd⟩:=h
 have hF:∀b∈F,w'.heap[b]? =w.heap[b]? :=λb hb=>hk b (hf.2 b hb).1 (hf.lt b hb)
 refine⟨hn,xs,F,⟨ho.1,?_⟩,Rep.all_keep ha hF,hf.keep hF,hd⟩
 rcases ho.2 with h|⟨g,cap,cur,hv,hb,hg,r⟩
 ·exact .inl h
 ·exact .inr ⟨g,cap,cur,hv,hb,(hk g hb (Array.getElem?_eq_some_iff.1 hg).1).trans hg,r⟩
theorem gp.below(h:gp R e B w v n l)(hb:Below w.heap.size w w'):gp R e B w' v n l:=h.keep λb _ hl=>hb.block b hl
theorem gp.alloc(h:gp R e B w v n l)(o:Obj):gp R e B (w.alloc o) v n l:=h.keep λb _ hl=>Below.heap_alloc w o b hl
theorem gp.drew(h:gp R e B w v n l):gp R e B w.drew v n l:=h.keep λ_ _ _=>rfl
theorem gp.setCell_lo(h:gp R e B w v n l){p:Addr}(hp:p.block<B)(u:Value):gp R e B (w.setCell p u) v n l:=
 h.keep λb hb _=>Below.heap_setCell w p u b Mo
theorem gp.form(h:gp R e B w v n l):∃A cap,v= .slice A n cap:=by
 obtain⟨hn,xs,F,ho,_⟩:=h
 rcases ho.2 with⟨rfl,rfl⟩|⟨g,cap,cur,rfl,_⟩
 ·exact⟨none,0,rfl⟩
 ·exact⟨_,cap,rfl⟩
theorem gp.out{A:Option Addr}{cap:Nat}{w0:World}(h:gp R e w0.heap.size w (.slice A n cap) n l)(hb:Below w0.heap.size w0 w):Ih R l w0 (.returned (.slice A n cap)) w:=by
 obtain⟨rfl,xs,F,ho,ha,hf,hd⟩:=h
 obtain⟨A',cap',e1,hrd,hh⟩:=Rep.sl_own (R:=R) ho ha rfl
 injection e1 with e1 _ e2
 subst e1 e2
 refine⟨A,cap,_,rfl,hrd,(cq.own ho rfl).join hf (λb hb hb'=>hd b hb' (hh b hb).1),hb⟩
theorem gp.res{A:Option Addr}{cap:Nat}(h:gp R e B w (.slice A n cap) n l):∃F,Res R.sl B w [.slice A l.length cap] l F:=by
 obtain⟨rfl,xs,F,ho,ha,hf,hd⟩:=h
 obtain⟨A',cap',e1,hrd,hh⟩:=Rep.sl_own (R:=R) ho ha rfl
 injection e1 with e1 _ e2
 subst e1 e2
 exact⟨_,hrd,(cq.own ho rfl).join hf (λb hb hb'=>hd b hb' (hh b hb).1)⟩
end
section
variable {α:Type} {P:Program}
end
end Go.Proofs.YtehobfglmeiglaaGreatDoor
namespace Go.Proofs.YtehobfglmeiglaaGreatDoor
open Go.Proofs.Tryz
open Go.ChangeShapes Go.WideShapes Go.RowKit
end Go.Proofs.YtehobfglmeiglaaGreatDoor
namespace Go.Proofs.YtehobfglmeiglaaGreatDoor
open Go.Proofs.Tryz
open Go.ChangeShapes Go.WideShapes Go.RowKit
theorem yo{B:Nat}{a w:World}(h:Below B a w)(n:Nat):Below B a (w.drewN n):=⟨h.os,h.tape,h.output,h.size,h.block⟩
def r4(w w':World):Prop:=∃n,w'=w.drewN n
theorem r4.refl(w:World):r4 w w:=⟨0,rfl⟩
theorem r4.drewN{w w':World}(h:r4 w w')(n:Nat):r4 w (w'.drewN n):=by
 obtain⟨m,rfl⟩:=h
 exact⟨m+n,World.drewN_drewN _ _ _⟩
theorem r4.below{w w':World}(h:r4 w w')(B:Nat):Below B w w':=by
 obtain⟨m,rfl⟩:=h
 exact yo (Below.refl _ _) m
end Go.Proofs.YtehobfglmeiglaaGreatDoor
namespace Go.Proofs.YtehobfglmeiglaaGreatDoor
open Go.Proofs.Tryz
open Go.ChangeShapes Go.WideShapes Go.RowKit
theorem infoByte:(Tryz.prog.info? 5).map (λi=>(i.zero,i.size,i.bytes))=some (some (.int .u8 0),1,1):=by kernel_rfl
theorem sizeBuilder:(Tryz.prog.info? 133).map (·.size)=some 2:=by kernel_rfl
theorem liesBuilder:liesAt Tryz.prog Tryz.prog.depth 133 (2/Tryz.prog.cellsOf 133) 0 133 1=true:=by kernel_rfl
set_option maxHeartbeats 1000000 in
theorem lP(b:Nat)(w:World)(h0:w.cell? ⟨b,0,none⟩=some (.pointer (some ⟨b,0,none⟩))):
  Calls Tryz.prog 89 #[.pointer (some ⟨b,0,none⟩)] w λe w'=>e= .returned (.tuple #[])/\w'=w:=by
 obtain⟨j,hj,_⟩:=Option.map_eq_some_iff.1 sizeBuilder
 go_enter Tryz.func89,Tryz.ntmps89
 go_wp2
 rw[Lib.run_neq_ptr_same w _ underlying130 hj]
 go_wp2
 go_end0
 exact⟨rfl,rfl⟩
set_option maxHeartbeats 1000000 in
theorem ku(b:Nat)(w:World)(h0:w.cell? ⟨b,0,none⟩=some (.pointer none))(hsh:w.shape? b=some (133,2))(hfz:w.frozen? ⟨b,0,none⟩=false):
  Calls Tryz.prog 89 #[.pointer (some ⟨b,0,none⟩)] w λe w'=>e= .returned (.tuple #[])/\w'=w.setCell ⟨b,0,none⟩ (.pointer (some ⟨b,0,none⟩)):=by
 obtain⟨j,hj,hjs⟩:=Option.map_eq_some_iff.1 sizeBuilder
 go_enter Tryz.func89,Tryz.ntmps89
 go_wp2
 rw[Lib.run_to_unsafe w ⟨b,0,none⟩ underlying130 underlying259 hj (by rw[hjs];decide) hsh (Nat.zero_lt_succ 1)]
 simp only[Result.andThen]
 rw[Oper.upon_value]
 go_wp2
 rw[run_callFunc_extern func161 Mp Mp Mp (e:=Extern.AbiNoEscape.same) Mp]
 rw[Lib.run_noEscape]
 simp only[Result.andThen]
 rw[Oper.upon_value]
 go_wp2
 rw[Lib.run_from_unsafe w ⟨b,0,none⟩ underlying259 underlying130 hj hsh liesBuilder]
 simp only[Result.andThen]
 rw[Oper.upon_value]
 go_wp2
 go_end0
 exact⟨rfl,rfl⟩
theorem rD(B b:Nat)(bs:List Value)(w:World)(h:Lib.IsBuilder 133 5 B b bs w):
  Calls Tryz.prog 89 #[.pointer (some ⟨b,0,none⟩)] w λe w'=>e= .returned (.tuple #[])/\(Lib.BuilderAt 133 5 B b (.pointer (some ⟨b,0,none⟩)) bs w'/\Below B w w'):=by
 rcases h with h|h
 ·refine(ku b w h.cell0 h.shape h.frozen0).mono ?_
  rintro e w' ⟨rfl,rfl⟩
  exact⟨rfl,h.used _,(Below.refl B w).setCell (p:=⟨b,0,none⟩) h.1 _⟩
 ·refine(lP b w h.cell0).mono ?_
  rintro e w' ⟨rfl,rfl⟩
  exact⟨rfl,h,Below.refl B _⟩
set_option maxHeartbeats 1000000 in
theorem p5(B b:Nat)(bs:List Value)(s:ByteArray)(w:World)(h:Lib.IsBuilder 133 5 B b bs w)(hlen:bs.length+s.size<=140737488355328)(hBw:B<=w.heap.size):
  Calls Tryz.prog 33 #[.pointer (some ⟨b,0,none⟩),.string s] w λe w'=>e= .returned (.tuple #[.int .i64 s.size,.nilIface])/\(Lib.BuilderAt 133 5 B b (.pointer (some ⟨b,0,none⟩)) (bs++Lib.strCells s) w'/\Below B w w'):=by
 obtain⟨i0,hi,hz0,hz1,hz2⟩:=info_parts infoByte
 go_enter Tryz.func33,Tryz.ntmps33
 go_wp2_with fail
 refine(rD B b bs _ h).mono ?_
 rintro e w1 ⟨rfl,h1,hb1⟩
 obtain⟨hB,v,hbk,hown,hne⟩:=h1
 have c0:w1.cell? ⟨b,0,none⟩=some (.pointer (some ⟨b,0,none⟩)):=by rw[Lib.cell_of_heap hbk];rfl
 have c1:w1.cell? ⟨b,1,none⟩=some v:=by rw[Lib.cell_of_heap hbk];rfl
 go_wp2_with (at_builtin;refine Lib.wpList_append_own_string _ rfl _ _ 131 9 rfl B 5 i0 Tryz.underlying131 Tryz.underlying9 hi hz0 hz1 hz2 _ _ _ rfl hown s rfl ?c3 ?c4 ?c5 ?_)
 case c3=>unfold maxLen;omega
 case c4=>omega
 case c5=>have:=hb1.size;omega
 intro v' w2 hown' hgrow _
 have hlt:b<w1.heap.size:=by
  rcases Nat.lt_or_ge b w1.heap.size with h'|h'
  ·exact h'
  ·simp[Array.getElem?_eq_none h']at hbk
 have hb2:w2.heap[b]? =some (.cells #[.pointer (some ⟨b,0,none⟩),v] 133 (0,0)):=by
  rw[hgrow.block b hlt (λe=>hne e.symm)]
  exact hbk
 have d0:w2.cell? ⟨b,0,none⟩=some (.pointer (some ⟨b,0,none⟩)):=by rw[Lib.cell_of_heap hb2];rfl
 have d1:w2.cell? ⟨b,1,none⟩=some v:=by rw[Lib.cell_of_heap hb2];rfl
 have f1:w2.frozen? ⟨b,1,none⟩=false:=Lib.frozen_of_heap hb2 1
 obtain⟨ao,n',cap,rfl⟩:∃ao n' cap,v'= .slice ao n' cap:=by
  rcases hown'.2 with⟨hv,_⟩|⟨g,cap,cur,hv,_⟩
  ·exact⟨_,_,_,hv⟩
  ·exact⟨_,_,_,hv⟩
 go_wp2
 go_ret2
 refine⟨rfl,?_,?_⟩
 ·exact Lib.BuilderAt.put (T:=133) (e:=5) hB hb2 (bs':=bs++Lib.strCells s) (by simpa[Lib.strCells_length]using hown') Mq
 ·exact(hb1.grown hgrow (by have:=hb1.size;omega) (λk hk=>(hown.lt k hk).1)).setCell (p:=⟨b,1,none⟩) hB _
end Go.Proofs.YtehobfglmeiglaaGreatDoor
