/- LawLaid -/
import Derived.Test.YtnlhpdbijmnkhaaGreatDoorLaw
import Derived.Test.YtnlhpdbijmnkhaaGreatDoorTabR
import Derived.Shelf.Vars
import Derived.LaidLaws
import Derived.LaidHandle
import Derived.LaidMore
import Derived.Lib.LaidTab
import Derived.Stop.Joined
set_option linter.unusedVariables false
set_option linter.unusedSimpArgs false
set_option maxRecDepth 100000
namespace Go.Proofs.YtnlhpdbijmnkhaaGreatDoor
open Go.ChangeShapes Go.WideShapes Go.RowKit
section
variable {H:Type} {enc:TypeId×Value->H}
theorem law_lifted_laid{L:List (String×DataW Unit)}{C:Checked}{os:Os}{f:FuncId}{fn:Func}{s:ChangeSpec}{tb:TypeId}{apart fresh handsOn again:Bool}
  (own:ownKnob C.prog.godebug=none) (started:os.Started) (noInit:C.prog.inits.idxOf? f=none) (hfn:C.prog.funcs[f]? =some fn)
  (hl:laidOutB C.prog=true) (hr:(fn.params.toList.all λt=>C.prog.readableRec t&&decide (t<C.prog.types.size))=true)
  (hvars:s.vars=[]) (hres:fn.resultTypes= #[tb]) (hb:C.prog.underlying tb=some .bool)
  (hspec:∀ds:List (DataW H),ds.length=fn.params.size->s.fn H (ds++[])={results:=[.lit (.bool true)],args:=ds})
  (witness : ∃ (w : World) (tape : Tape) (i : Input), w.os = os ∧ (w.forCall tape i).Shaped C.prog ∧ i.vars = [] ∧ Input.okWide C.prog (w.forCall tape i) .any w.heap.size f i ∧
   ((s.pre enc C.prog fn [] apart (w.forCall tape i).memory i.args/\laidMetH C.prog L (w.forCall tape i).memory)/\sizedMet enc C.prog fn (OpenSpec.ofChange s) apart (w.forCall tape i).memory i.args)/\({}:Assume).holds C.prog (lone (Frame.enter C.prog f i.args .normal) [] (w.forCall tape i)))
  (walk:∀(W:World) (base:Nat) (args:Array Value) (ds:List (DataW H)) (ps:List MemPlace),
   (∀(j:Nat) t v,fn.params[j]? =some t->args[j]? =some v->Value.okWide C.prog W .any base t v)->
   DataW.TrodAll enc C.prog W 0 (λ_=>true) true fn.params.toList args.toList ds ps->W.noneFrozen ps->W.ShapedOpen C.prog->laidMetH C.prog L W->
   Calls C.prog f args W λe W'=>e= .returned (.bool true)/\Below W.heap.size W W'):
  ReturnsInHanded {} C os f .any (λw args=>(s.pre enc C.prog fn [] apart w args/\laidMetH C.prog L w)/\sizedMet enc C.prog fn (OpenSpec.ofChange s) apart w args) (s.post enc C.prog fn apart fresh handsOn again):=by
 refine returnsInHanded_of_calls own started noInit witness ?_
 intro w tape i _ hsh _ hok hpre hholds
 obtain⟨_,_,_,fn',hfn',_,_,_,_,hval⟩:=hok
 have e:fn=fn':=Option.some.inj (hfn.symm.trans hfn')
 subst e
 obtain⟨⟨⟨ds,gs,before,hw,_⟩,hL⟩,_⟩:=hpre
 have hW:DataW.Whole enc C.prog fn.params.toList s.vars apart (w.forCall tape i) i.args.toList ds gs before:=DataW.Whole.of_heap (w':=w.forCall tape i) (by rfl) hw
 have hL:laidMetH C.prog L (w.forCall tape i):=hL.of_heap (by rfl)
 generalize hWW:w.forCall tape i=W at*
 generalize i.args=args at*
 suffices hS:Calls C.prog f args W λe W'=>∃v,e= .returned v/\s.post enc C.prog fn apart fresh handsOn again W args v W' by
  refine hS.mono λe W' ⟨v,he,hp⟩=>?_
  subst he
  exact ChangeSpec.post_blind hp
 have hW':=hW
 obtain⟨p,q,hA,hV,rfl,hfz,hnd⟩:=hW
 rw[hvars]at hV
 obtain⟨rfl,rfl⟩:=trodVars_none hV
 have hlen:ds.length=fn.params.size:=by
  have aux:∀(ts:List TypeId) (vs:List Value) (ds:List (DataW H)) (ps:List MemPlace),DataW.TrodAll enc C.prog W 0 (λ_=>true) true ts vs ds ps->ds.length=ts.length:=by
   intro ts
   induction ts with
   |nil=>intro vs ds ps h;cases vs<;>cases ds<;>simp_all[DataW.TrodAll]
   |cons t ts ih=>
    intro vs ds ps h
    cases vs with
    |nil=>simp[DataW.TrodAll]at h
    |cons v vs=>
     cases ds with
     |nil=>simp[DataW.TrodAll]at h
     |cons d ds=>obtain⟨p,q,_,h2,_⟩:=h;simp[ih _ _ _ h2]
  simpa using aux _ _ _ _ hA
 have hsp:=hspec ds hlen
 have hlt:∀x∈p++[],x.block<W.heap.size:=λx hx=>hW'.lt x hx
 simp only[List.append_nil]at hW' hlt hfz
 refine(walk W w.heap.size args ds p hval hA hfz hsh hL).mono λe W' ⟨he,hbl⟩=>⟨_,he,?_⟩
 refine sT (pa:=p) (pv:=[]) hW' (λb sp hd=>?_) (λsp hh=>?_) (λsp hh=>?_) Iy hbl ?_
 ·rw[hsp,hres]
  exact trodAll_cons_mk (shut_bool hb _) trodAll_mk0
 ·rw[hsp]
  exact sZ hl _ _ _ _ _ _ _ hr hA (λx hx=>hbl.same (hlt x hx)) hh
 ·rw[hsp,hvars]
  rfl
 ·exact ok_one hres rfl (okWide_bool_mk hb _)
end
theorem xJ{W:World}{x y:String×DataW Unit}{d:DataW Unit}{n:String}{rest:List (String×DataW Unit)}(hn:n=Rows.fnScriptsRow.named.getD 0 "")(hd:d=Lib.tabData .u64 Lib.pow10Tab)
  (h:laidMet Tryz.prog (x::y::(n,d)::rest) W):Tab W:=by
 subst hd hn
 obtain⟨ps,⟨_,_,_,_,_,_,_,_,_,_,⟨_,_,_,_,_,_,_,_,_,_,⟨g2,t2,cs2,f2,p2,q2,hg2,ht2,hv2,hd2,_,_⟩,_⟩,_⟩,_⟩:=h
 have e1:Tryz.prog.globalNamed (Rows.fnScriptsRow.named.getD 0 "")=some 1:=by kernel_rfl
 have e2:(Tryz.prog.globals[1]?).map (·.type)=some 227:=by kernel_rfl
 obtain rfl:=Option.some.inj (e1.symm.trans hg2)
 obtain rfl:=Option.some.inj (e2.symm.trans ht2)
 show Lib.TabIs _ _ _ _ _
 unfold Lib.TabIs
 rw[hv2,<-Lib.cells_of_tab Tryz.underlying227 Tryz.underlying26 Iw Iw hd2]
theorem D3{W:World}(hsh:W.ShapedOpen Tryz.prog)(hT:Tab W):uD W:=
 ⟨hT,Go.Proofs.cell_of_shapedOpen_int (g:=0) (t:=3) (zero:= #[.int .i64 0]) (k:= .i64) hsh (of_decide_eq_true Iw) Iw rfl Iw Iw Tryz.underlying3⟩
end Go.Proofs.YtnlhpdbijmnkhaaGreatDoor
