/- J20 -/
import Derived.Test.YtnlhpdbijmnkhaaGreatDoorJ03
import Derived.StillTailTactics
import Derived.Deep.QuietTactic
import Derived.BigQuiet
import Derived.Outline
import Derived.Deep.Draws
import Derived.Test.YtnlhpdbijmnkhaaGreatDoorJ01
import Derived.Lib.Builder
import Derived.Lib.AppendStr
import Derived.Lib.UnsafeStr
import Derived.Laws.Externs
import Derived.OwnWalk
set_option linter.unusedVariables false
set_option linter.unusedSimpArgs false
set_option maxRecDepth 100000
namespace Go.Proofs.YtnlhpdbijmnkhaaGreatDoor
open Go.Proofs.Tryz
open Go.ChangeShapes Go.WideShapes Go.RowKit
def c7{α:Type}(R:Rep α)(e:TypeId)(B:Nat)(w:World)(v:Value)(n:Nat)(l:List α):Prop:=
 n=l.length/\∃xs F,w.ownsRow B e R.size v n xs/\R.all w xs l F/\bR B w F/\(∀b∈F,v.ownBlock≠some b)
section
variable {α:Type} {R:Rep α} {e:TypeId} {B:Nat} {w w':World} {v:Value} {n:Nat} {l:List α}
theorem c7.empty(R:Rep α)(e:TypeId){B:Nat}(w:World)(hB:B<=w.heap.size):c7 R e B (w.alloc (.cells #[] e)) (.slice (some ⟨w.heap.size,0,none⟩) 0 0) 0 []:=
 ⟨rfl,[],[],World.ownsRow_made w #[] 0 hB (Nat.zero_le _) Iy,⟨rfl,rfl⟩,bR.nil _ _,by simp⟩
theorem c7.keep(h:c7 R e B w v n l)(hk:∀b,B<=b->b<w.heap.size->w'.heap[b]? =w.heap[b]?):c7 R e B w' v n l:=by
 obtain⟨hn,xs,F,ho,ha,hf,hd⟩:=h
 have hF:∀b∈F,w'.heap[b]? =w.heap[b]? :=λb hb=>hk b (hf.2 b hb).1 (hf.lt b hb)
 refine⟨hn,xs,F,⟨ho.1,?_⟩,Rep.all_keep ha hF,hf.keep hF,hd⟩
 rcases ho.2 with h|⟨g,cap,cur,hv,hb,hg,r⟩
 ·exact .inl h
 ·exact .inr ⟨g,cap,cur,hv,hb,(hk g hb (Array.getElem?_eq_some_iff.1 hg).1).trans hg,r⟩
theorem c7.below(h:c7 R e B w v n l)(hb:Below w.heap.size w w'):c7 R e B w' v n l:=h.keep λb _ hl=>hb.block b hl
theorem c7.alloc(h:c7 R e B w v n l)(o:Obj):c7 R e B (w.alloc o) v n l:=h.keep λb _ hl=>Below.heap_alloc w o b hl
theorem c7.drew(h:c7 R e B w v n l):c7 R e B w.drew v n l:=h.keep λ_ _ _=>rfl
theorem c7.setCell_lo(h:c7 R e B w v n l){p:Addr}(hp:p.block<B)(u:Value):c7 R e B (w.setCell p u) v n l:=
 h.keep λb hb _=>Below.heap_setCell w p u b Iv
theorem c7.form(h:c7 R e B w v n l):∃A cap,v= .slice A n cap:=by
 obtain⟨hn,xs,F,ho,_⟩:=h
 rcases ho.2 with⟨rfl,rfl⟩|⟨g,cap,cur,rfl,_⟩
 ·exact⟨none,0,rfl⟩
 ·exact⟨_,cap,rfl⟩
theorem c7.own_lt(h:c7 R e B w v n l):∀k,v.ownBlock=some k->B<=k/\k<w.heap.size:=by
 obtain⟨hn,xs,F,ho,_⟩:=h
 exact ho.lt
theorem c7.out{A:Option Addr}{cap:Nat}{w0:World}(h:c7 R e w0.heap.size w (.slice A n cap) n l)(hb:Below w0.heap.size w0 w):D8 R l w0 (.returned (.slice A n cap)) w:=by
 obtain⟨rfl,xs,F,ho,ha,hf,hd⟩:=h
 obtain⟨A',cap',e1,hrd,hh⟩:=Rep.sl_own (R:=R) ho ha rfl
 injection e1 with e1 _ e2
 subst e1 e2
 refine⟨A,cap,_,rfl,hrd,(bR.own ho rfl).join hf (λb hb hb'=>hd b hb' (hh b hb).1),hb⟩
theorem c7.res{A:Option Addr}{cap:Nat}(h:c7 R e B w (.slice A n cap) n l):∃F,Res R.sl B w [.slice A l.length cap] l F:=by
 obtain⟨rfl,xs,F,ho,ha,hf,hd⟩:=h
 obtain⟨A',cap',e1,hrd,hh⟩:=Rep.sl_own (R:=R) ho ha rfl
 injection e1 with e1 _ e2
 subst e1 e2
 exact⟨_,hrd,(bR.own ho rfl).join hf (λb hb hb'=>hd b hb' (hh b hb).1)⟩
end
section
variable {α:Type} {P:Program}
theorem CL{R:Rep α}(w0 w:World)(t ty e:TypeId)(B:Nat)(i:TypeInfo)(z:Value)(bytes:Nat)(ht:P.underlying t=some (.slice e))(hi:P.info? e=some i)(hz:i.zero=some z)
  (hsize:i.size=R.size) (hby:i.bytes=bytes) (hzs:z.cells.size=R.size) (hsz:0<R.size)
  (v:Value) (n:Nat) (l:List α) (hg:c7 R e B w0 v n l) (hbl:Below w0.heap.size w0 w)
  (A:Option Addr) (m c:Nat) (news:List Value) (l2:List α) (F2:List Nat) (hm:m=l2.length) (hr:Row w A news) (hall:R.all w news l2 F2) (hfr:bR w0.heap.size w F2) (hB:B<=w0.heap.size)
  (h63:n+m<=1000000000) (hbytes:bytes<=100000):
  ∃A' c' w',(Builtin.append_ #[t,t] ty #[v,.slice A m c]).run P w= .ok (.slice A' (n+m) c') w'/\c7 R e B w' (.slice A' (n+m) c') (n+m) (l++l2)/\Below B w w'/\w.grownBy w' v.ownBlock:=by
 have hg':=hg.below hbl
 have hlt:=hg.own_lt
 obtain⟨hn,xs,F,ho,ha,hf,hd⟩:=hg
 obtain⟨hn',xs',F',ho',ha',hf',hd'⟩:=hg'
 subst hm
 have hsz2:=hbl.size
 have hx:w.ownsRow B e R.size v n xs:=by
  refine⟨ho.1,?_⟩
  rcases ho.2 with h|⟨g,cap,cur,hv,hb,hg,r⟩
  ·exact .inl h
  ·exact .inr ⟨g,cap,cur,hv,hb,(hbl.block g (Array.getElem?_eq_some_iff.1 hg).1).trans hg,r⟩
 have hax:R.all w xs l F:=Rep.all_keep ha λb hb=>hbl.block b (hf.lt b hb)
 have hb1:(n+l2.length)*bytes<=1000000000*100000:=Nat.mul_le_mul h63 hbytes
 obtain⟨v',w',hrun,h2,h3,h5⟩:=lr (P:=P) w B t ty e i z R.size bytes ht hi hz hsize hby hzs hsz v n xs hx A l2.length c news (Rep.all_len hall) hr (Rep.all_one hall)
  (by unfold maxLen;omega) Iv Iv
 have hF:∀b∈F,w'.heap[b]? =w.heap[b]? :=λb hb=>h3.block b (by have:=hf.lt b hb;omega) (λe=>hd b hb e.symm)
 have hF2:∀b∈F2,w'.heap[b]? =w.heap[b]? :=λb hb=>h3.block b (hfr.lt b hb) (λe=>by have:=(hlt b e.symm).2;have:=(hfr.2 b hb).1;omega)
 have hG:c7 R e B w' v' (n+l2.length) (l++l2):=by
  refine⟨by simp[hn],xs++news,F++F2,h2,Rep.all_append (Rep.all_keep hax hF) (Rep.all_keep hall hF2),?_,?_⟩
  ·refine bR.join ((hf.keep (w':=w) λb hb=>hbl.block b (hf.lt b hb)).keep hF) ((hfr.mono hB).keep hF2) λb hb hb'=>?_
   have:=hf.lt b hb;have:=(hfr.2 b hb').1;omega
  ·intro b hb
   rcases List.mem_append.1 hb with hb|hb
   ·rcases h5 with h|h
    ·rw[h];exact hd b hb
    ·rw[h];intro e;injection e with e;have:=hf.lt b hb;omega
   ·rcases h5 with h|h
    ·rw[h];intro e;have:=(hlt b e).2;have:=(hfr.2 b hb).1;omega
    ·rw[h];intro e;injection e with e;have:=hfr.lt b hb;omega
 obtain⟨A',c',rfl⟩:=hG.form
 exact⟨A',c',w',hrun,hG,(Below.refl B w).grown h3 Iv (λk hk=>(hlt k hk).1),h3⟩
theorem xR{R:Rep α}{ops:Array Oper}{rest:List Oper}{o:Oper}{a:Act}{Q:Exit->Act->World->Prop}{w:World}(hgd:o.guard=none)(s x:Operand)(t:TypeId)
  (ho:o.op= .call {callee:= .builtin .append,args:= #[s,x],argTypes:= #[t,t]})
  (w0:World) (e:TypeId) (B:Nat) {z:Value} {bytes:Nat} (ht:P.underlying t=some (.slice e)) (hinfo:(P.info? e).map (λi=>(i.zero,i.size,i.bytes))=some (some z,R.size,bytes))
  (hzs:z.cells.size=R.size) (hsz:0<R.size)
  (v:Value) (n:Nat) (l:List α) (hs:a.eval s=v) (hg:c7 R e B w0 v n l) (hbl:Below w0.heap.size w0 w)
  (A:Option Addr) (m c:Nat) (news:List Value) (l2:List α) (F2:List Nat) (hx:a.eval x= .slice A m c) (hm:m=l2.length) (hr:Row w A news) (hall:R.all w news l2 F2) (hfr:bR w0.heap.size w F2) (hB:B<=w0.heap.size)
  (h63:n+m<=1000000000) (hbytes:bytes<=100000)
  (h:∀A' c' w',c7 R e B w' (.slice A' (n+m) c') (n+m) (l++l2)->Below B w w'->w.grownBy w' v.ownBlock->wpList P ops Q rest (a.put o.dst (.slice A' (n+m) c')) w'):wpList P ops Q (o::rest) a w:=by
 obtain⟨i0,hi,hz0,hz1,hz2⟩:=info_parts hinfo
 refine wpList_plain hgd λK hK=>?_
 obtain⟨A',c',w',hrun,h2,h3,h4⟩:=CL (P:=P) w0 w t o.type e B i0 z bytes ht hi hz0 hz1 hz2 hzs hsz v n l hg hbl A m c news l2 F2 hm hr hall hfr hB h63 hbytes
 unfold Oper.wp execOp
 simp only[ho,resolve,invoke,builtin,Sem.run_bind,Sem.run_pure,Result.andThen_ok,List.map_toArray,List.map_cons,List.map_nil,hs,hx,hrun]
 exact hK _ _ (h A' c' w' h2 h3 h4)
end
theorem DG{w:World}(cs:Array Value)(t:TypeId):Row (w.alloc (.cells cs t)) (some ⟨w.heap.size,0,none⟩) cs.toList:=Row.new w cs t
end Go.Proofs.YtnlhpdbijmnkhaaGreatDoor
namespace Go.Proofs.YtnlhpdbijmnkhaaGreatDoor
open Go.Proofs.Tryz
open Go.ChangeShapes Go.WideShapes Go.RowKit
end Go.Proofs.YtnlhpdbijmnkhaaGreatDoor
namespace Go.Proofs.YtnlhpdbijmnkhaaGreatDoor
open Go.Proofs.Tryz
open Go.ChangeShapes Go.WideShapes Go.RowKit
theorem wh{B:Nat}{a w:World}(h:Below B a w)(n:Nat):Below B a (w.drewN n):=⟨h.os,h.tape,h.output,h.size,h.block⟩
def pT(w w':World):Prop:=∃n,w'=w.drewN n
theorem pT.refl(w:World):pT w w:=⟨0,rfl⟩
theorem pT.drewN{w w':World}(h:pT w w')(n:Nat):pT w (w'.drewN n):=by
 obtain⟨m,rfl⟩:=h
 exact⟨m+n,World.drewN_drewN _ _ _⟩
theorem pT.below{w w':World}(h:pT w w')(B:Nat):Below B w w':=by
 obtain⟨m,rfl⟩:=h
 exact wh (Below.refl _ _) m
end Go.Proofs.YtnlhpdbijmnkhaaGreatDoor
namespace Go.Proofs.YtnlhpdbijmnkhaaGreatDoor
open Go.Proofs.Tryz
open Go.ChangeShapes Go.WideShapes Go.RowKit
theorem infoByte:(Tryz.prog.info? 5).map (λi=>(i.zero,i.size,i.bytes))=some (some (.int .u8 0),1,1):=by kernel_rfl
theorem sizeBuilder:(Tryz.prog.info? 91).map (·.size)=some 2:=by kernel_rfl
theorem liesBuilder:liesAt Tryz.prog Tryz.prog.depth 91 (2/Tryz.prog.cellsOf 91) 0 91 1=true:=by kernel_rfl
set_option maxHeartbeats 1000000 in
theorem kF(b:Nat)(w:World)(h0:w.cell? ⟨b,0,none⟩=some (.pointer (some ⟨b,0,none⟩))):
  Calls Tryz.prog 30 #[.pointer (some ⟨b,0,none⟩)] w λe w'=>e= .returned (.tuple #[])/\w'=w:=by
 obtain⟨j,hj,_⟩:=Option.map_eq_some_iff.1 sizeBuilder
 go_enter Tryz.func30,Tryz.ntmps30
 go_wp2
 rw[Lib.run_neq_ptr_same w _ underlying89 hj]
 go_wp2
 go_end0
 exact⟨rfl,rfl⟩
set_option maxHeartbeats 1000000 in
theorem jB(b:Nat)(w:World)(h0:w.cell? ⟨b,0,none⟩=some (.pointer none))(hsh:w.shape? b=some (91,2))(hfz:w.frozen? ⟨b,0,none⟩=false):
  Calls Tryz.prog 30 #[.pointer (some ⟨b,0,none⟩)] w λe w'=>e= .returned (.tuple #[])/\w'=w.setCell ⟨b,0,none⟩ (.pointer (some ⟨b,0,none⟩)):=by
 obtain⟨j,hj,hjs⟩:=Option.map_eq_some_iff.1 sizeBuilder
 go_enter Tryz.func30,Tryz.ntmps30
 go_wp2
 rw[Lib.run_to_unsafe w ⟨b,0,none⟩ underlying89 underlying132 hj (by rw[hjs];decide) hsh (Nat.zero_lt_succ 1)]
 simp only[Result.andThen]
 rw[Oper.upon_value]
 go_wp2
 rw[run_callFunc_extern func50 Iw Iw Iw (e:=Extern.AbiNoEscape.same) Iw]
 rw[Lib.run_noEscape]
 simp only[Result.andThen]
 rw[Oper.upon_value]
 go_wp2
 rw[Lib.run_from_unsafe w ⟨b,0,none⟩ underlying132 underlying89 hj hsh liesBuilder]
 simp only[Result.andThen]
 rw[Oper.upon_value]
 go_wp2
 go_end0
 exact⟨rfl,rfl⟩
theorem pp(B b:Nat)(bs:List Value)(w:World)(h:Lib.IsBuilder 91 5 B b bs w):
  Calls Tryz.prog 30 #[.pointer (some ⟨b,0,none⟩)] w λe w'=>e= .returned (.tuple #[])/\(Lib.BuilderAt 91 5 B b (.pointer (some ⟨b,0,none⟩)) bs w'/\Below B w w'):=by
 rcases h with h|h
 ·refine(jB b w h.cell0 h.shape h.frozen0).mono ?_
  rintro e w' ⟨rfl,rfl⟩
  exact⟨rfl,h.used _,(Below.refl B w).setCell (p:=⟨b,0,none⟩) h.1 _⟩
 ·refine(kF b w h.cell0).mono ?_
  rintro e w' ⟨rfl,rfl⟩
  exact⟨rfl,h,Below.refl B _⟩
set_option maxHeartbeats 1000000 in
theorem nU(B b:Nat)(bs:List Value)(s:ByteArray)(w:World)(h:Lib.IsBuilder 91 5 B b bs w)(hlen:bs.length+s.size<=140737488355328)(hBw:B<=w.heap.size):
  Calls Tryz.prog 15 #[.pointer (some ⟨b,0,none⟩),.string s] w λe w'=>e= .returned (.tuple #[.int .i64 s.size,.nilIface])/\(Lib.BuilderAt 91 5 B b (.pointer (some ⟨b,0,none⟩)) (bs++Lib.strCells s) w'/\Below B w w'):=by
 obtain⟨i0,hi,hz0,hz1,hz2⟩:=info_parts infoByte
 go_enter Tryz.func15,Tryz.ntmps15
 go_wp2_with fail
 refine(pp B b bs _ h).mono ?_
 rintro e w1 ⟨rfl,h1,hb1⟩
 obtain⟨hB,v,hbk,hown,hne⟩:=h1
 have c0:w1.cell? ⟨b,0,none⟩=some (.pointer (some ⟨b,0,none⟩)):=by rw[Lib.cell_of_heap hbk];rfl
 have c1:w1.cell? ⟨b,1,none⟩=some v:=by rw[Lib.cell_of_heap hbk];rfl
 go_wp2_with (at_builtin;refine Lib.wpList_append_own_string _ rfl _ _ 22 9 rfl B 5 i0 Tryz.underlying22 Tryz.underlying9 hi hz0 hz1 hz2 _ _ _ rfl hown s rfl ?c3 ?c4 ?c5 ?_)
 case c3=>unfold maxLen;omega
 case c4=>omega
 case c5=>have:=hb1.size;omega
 intro v' w2 hown' hgrow _
 have hlt:b<w1.heap.size:=by
  rcases Nat.lt_or_ge b w1.heap.size with h'|h'
  ·exact h'
  ·simp[Array.getElem?_eq_none h']at hbk
 have hb2:w2.heap[b]? =some (.cells #[.pointer (some ⟨b,0,none⟩),v] 91 (0,0)):=by
  rw[hgrow.block b hlt (λe=>hne e.symm)]
  exact hbk
 have d0:w2.cell? ⟨b,0,none⟩=some (.pointer (some ⟨b,0,none⟩)):=by rw[Lib.cell_of_heap hb2];rfl
 have d1:w2.cell? ⟨b,1,none⟩=some v:=by rw[Lib.cell_of_heap hb2];rfl
 have f1:w2.frozen? ⟨b,1,none⟩=false:=Lib.frozen_of_heap hb2 1
 obtain⟨ao,n',cap,rfl⟩:∃ao n' cap,v'= .slice ao n' cap:=by
  rcases hown'.2 with⟨hv,_⟩|⟨g,cap,cur,hv,_⟩
  ·exact⟨_,_,_,hv⟩
  ·exact⟨_,_,_,hv⟩
 go_wp2
 go_ret2
 refine⟨rfl,?_,?_⟩
 ·exact Lib.BuilderAt.put (T:=91) (e:=5) hB hb2 (bs':=bs++Lib.strCells s) (by simpa[Lib.strCells_length]using hown') Ix
 ·exact(hb1.grown hgrow (by have:=hb1.size;omega) (λk hk=>(hown.lt k hk).1)).setCell (p:=⟨b,1,none⟩) hB _
end Go.Proofs.YtnlhpdbijmnkhaaGreatDoor
