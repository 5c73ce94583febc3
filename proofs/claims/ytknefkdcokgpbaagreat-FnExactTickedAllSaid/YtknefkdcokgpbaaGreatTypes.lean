/- Types -/
import Derived.Test.YtknefkdcokgpbaaGreatNum
import Derived.Test.YtknefkdcokgpbaaGreatRows
import Derived.WalkKit
import Derived.ProofKit
import Derived.OpenShut
import Derived.Below
import Derived.ChangeSame
import Derived.Carry
set_option maxHeartbeats 8000000
set_option linter.unusedVariables false
set_option linter.unusedSimpArgs false
namespace Go.Proofs.YtknefkdcokgpbaaGreat
open Go.ChangeShapes Go.WideShapes Go.RowKit
def Yw{α β:Type}(f:β->α)(R:Rep α):Rep β where
 size:=R.size
 rd:=λw cs b F=>R.rd w cs (f b) F
 len:=λh=>R.len h
 one:=λh=>R.one h
 lt:=λh=>R.lt h
 keep:=λh k=>R.keep h k
structure XV where
 kind:Int
 a:Int
 b:Int
 c:Int
 fates:(List Int)
 deriving DecidableEq
structure DOp where
 kind:Int
 a:Int
 b:Int
 c:Int
 d:Int
 deriving DecidableEq
def Zs:Rep DOp:=Yw (λx=>(x.kind,x.a,x.b,x.c,x.d)) (Yd (Rep.int .i64) (Yd (Rep.int .i64) (Yd (Rep.int .i64) (Yd (Rep.int .i64) (Rep.int .i64)))))
structure DEntry where
 index:Int
 time:Int
 client:Int
 seq:Int
 op:DOp
 deriving DecidableEq
def Zm:Rep DEntry:=Yw (λx=>(x.index,x.time,x.client,x.seq,x.op)) (Yd (Rep.int .i64) (Yd (Rep.int .i64) (Yd (Rep.int .i64) (Yd (Rep.int .i64) Zs))))
structure DMsg where
 frm:Int
 to_:Int
 row:(List Int)
 deriving DecidableEq
def Zq:Rep DMsg:=Yw (λx=>(x.frm,x.to_,x.row)) (Yd (Rep.int .i64) (Yd (Rep.int .i64) (Rep.sl (Rep.int .i64))))
structure DLink where
 a:Int
 b:Int
 deriving DecidableEq
def ZB:Rep DLink:=Yw (λx=>(x.a,x.b)) (Yd (Rep.int .i64) (Rep.int .i64))
structure DNet where
 flight:(List DMsg)
 cuts:(List DLink)
 deriving DecidableEq
def Zr:Rep DNet:=Yw (λx=>(x.flight,x.cuts)) (Yd (Rep.sl Zq) (Rep.sl ZB))
structure DWant where
 kind:Int
 op:DOp
 key:Int
 deriving DecidableEq
def ZD:Rep DWant:=Yw (λx=>(x.kind,x.op,x.key)) (Yd (Rep.int .i64) (Yd Zs (Rep.int .i64)))
section
section
variable {H:Type} {enc:TypeId×Value->H} {P:Program}
theorem DP{f:Func}{s:ChangeSpec}{apart fresh handsOn again:Bool}{W W':World}{args:Array Value}{v:Value}{ds gs:List (DataW H)}{before pa pv:List MemPlace}
  (hW:DataW.Whole enc P f.params.toList s.vars apart W args.toList ds gs before)
  (hres:∀(b:Nat) (sp:Nat->Bool) (hd:Bool),DataW.TrodAll enc P W' b sp hd f.resultTypes.toList (v.resultList f.resultTypes.size) (s.fn H (ds++gs)).results [])
  (hargs:∀sp:Nat->Bool,(∀p∈before,sp p.block=true)->DataW.TrodAll enc P W' 0 sp true f.params.toList args.toList (s.fn H (ds++gs)).args pa)
  (hvars:∀sp:Nat->Bool,(∀p∈before,sp p.block=true)->DataW.TrodVars enc P W' sp s.vars (s.fn H (ds++gs)).vars pv)
  (hps:before=pa++pv) (hb:Below W.heap.size W W')
  (hok:∀(j:Nat) (t:TypeId) (r:Value),f.resultTypes[j]? =some t->(v.resultList f.resultTypes.size)[j]? =some r->Value.okWide P W' .any 0 t r):
  s.post enc P f apart fresh handsOn again W args v W':=by
 have hlt:∀p∈before,p.block<W.heap.size:=λp hp=>hW.lt p hp;have hold:∀p∈before,(λb=>decide (b<W.heap.size)) p.block=true:=λp hp=>by simpa using hlt p hp
 refine⟨ds,gs,before,[],pa,pv,hW,hres _ _ _,hargs _ hold,hvars _ hold,World.keptBut_mono (λp hp=>⟨hp,?_⟩) (hb.frame (· ∈before)),λ_=>?_⟩
 ·rw[hps,List.mem_append]at hp;exact Or.inr hp
 ·obtain⟨_,_,_,_,_,hz,hn⟩:=hW;refine⟨hok,_,_,([]++pa)++pv,⟨[]++pa,pv,trodAll_append (hargs _ (λ_ _=>rfl)) (hres _ _ _),hvars _ (λ_ _=>rfl),rfl,?_,?_⟩,?_⟩
  ·intro b off hp;have hin:MemPlace.cell b off∈before:=by rw[hps];simpa using hp
   rw[hb.frozen (hlt _ hin)];exact hz b off hin
  ·intro ha;have:=hn ha;rw[hps]at this;simpa using this
  ·intro p hp _;rw[hps];simpa using hp
theorem Ea(hl:laidOutB P=true):∀(ts:List TypeId) (vs:List Value) (ds:List (DataW H)) (ps:List MemPlace) (W W':World) (sp:Nat->Bool),
  (ts.all λt=>P.readableRec t&&decide (t<P.types.size))=true->DataW.TrodAll enc P W 0 (λ_=>true) true ts vs ds ps->(∀x∈ps,W.sameAt W' x)->(∀x∈ps,sp x.block=true)->
  DataW.TrodAll enc P W' 0 sp true ts vs ds ps:=by
 intro ts;induction ts with
 |nil=>
  intro vs ds ps W W' sp _ h _ _;cases vs<;>cases ds<;>simp_all[DataW.TrodAll]
 |cons t ts ih=>
  intro vs ds ps W W' sp hr h hs hsp;cases vs with
  |nil=>simp[DataW.TrodAll]at h
  |cons v vs=>
   cases ds with
   |nil=>simp[DataW.TrodAll]at h
   |cons d ds=>
    obtain⟨p,q,h1,h2,rfl⟩:=h;simp only[List.all_cons,Bool.and_eq_true,decide_eq_true_eq]at hr;exact⟨p,q,WideElems.Trod_stays hl hr.1.1 hr.1.2 h1 (λx hx=>hs x (List.mem_append_left _ hx)) (λx hx=>hsp x (List.mem_append_left _ hx)),
     ih vs ds q W W' sp hr.2 h2 (λx hx=>hs x (List.mem_append_right _ hx)) (λx hx=>hsp x (List.mem_append_right _ hx)),rfl⟩
theorem law_lifted{C:Checked}{os:Os}{f:FuncId}{fn:Func}{s:ChangeSpec}{tb:TypeId}{apart fresh handsOn again:Bool}
  (own:ownKnob C.prog.godebug=none) (started:os.Started) (noInit:C.prog.inits.idxOf? f=none) (hfn:C.prog.funcs[f]? =some fn)
  (hl:laidOutB C.prog=true) (hr:(fn.params.toList.all λt=>C.prog.readableRec t&&decide (t<C.prog.types.size))=true)
  (hvars:s.vars=[]) (hres:fn.resultTypes= #[tb]) (hb:C.prog.underlying tb=some .bool)
  (hspec:∀ds:List (DataW H),ds.length=fn.params.size->s.fn H (ds++[])={results:=[.lit (.bool true)],args:=ds})
  (witness : ∃ (w : World) (tape : Tape) (i : Input), w.os = os ∧ (w.forCall tape i).Shaped C.prog ∧ i.vars = [] ∧ Input.okWide C.prog (w.forCall tape i) .any w.heap.size f i ∧
   s.pre6 enc C.prog fn [] apart (w.forCall tape i).memory i.args/\({}:Assume).holds C.prog (lone (Frame.enter C.prog f i.args .normal) [] (w.forCall tape i)))
  (walk:∀(W:World) (base:Nat) (args:Array Value) (ds:List (DataW H)) (ps:List MemPlace),
   (∀(j:Nat) t v,fn.params[j]? =some t->args[j]? =some v->Value.okWide C.prog W .any base t v)->
   DataW.TrodAll enc C.prog W 0 (λ_=>true) true fn.params.toList args.toList ds ps->W.noneFrozen ps->
   Calls C.prog f args W λe W'=>e= .returned (.bool true)/\Below W.heap.size W W'):
  ReturnsInHanded {} C os f .any (s.pre6 enc C.prog fn [] apart) (s.post enc C.prog fn apart fresh handsOn again):=by
 refine returnsInHanded_of_change own started noInit hfn witness ?_;intro W base args ds gs before hval hW _ _;have hW':=hW;obtain⟨p,q,hA,hV,rfl,hfz,hnd⟩:=hW;rw[hvars]at hV;obtain⟨rfl,rfl⟩:=trodVars_none hV;have hlen:ds.length=fn.params.size:=by
  have aux:∀(ts:List TypeId) (vs:List Value) (ds:List (DataW H)) (ps:List MemPlace),DataW.TrodAll enc C.prog W 0 (λ_=>true) true ts vs ds ps->ds.length=ts.length:=by
   intro ts;induction ts with
   |nil=>intro vs ds ps h;cases vs<;>cases ds<;>simp_all[DataW.TrodAll]
   |cons t ts ih=>
    intro vs ds ps h;cases vs with
    |nil=>simp[DataW.TrodAll]at h
    |cons v vs=>
     cases ds with
     |nil=>simp[DataW.TrodAll]at h
     |cons d ds=>obtain⟨p,q,_,h2,_⟩:=h;simp[ih _ _ _ h2]
  simpa using aux _ _ _ _ hA
 have hsp:=hspec ds hlen;have hlt:∀x∈p++[],x.block<W.heap.size:=λx hx=>hW'.lt x hx;simp only[List.append_nil]at hW' hlt hfz;refine(walk W base args ds p hval hA hfz).mono λe W' ⟨he,hbl⟩=>⟨_,he,?_⟩;refine DP (pa:=p) (pv:=[]) hW' (λb sp hd=>?_) (λsp hh=>?_) (λsp hh=>?_) (by simp) hbl ?_
 ·rw[hsp,hres];exact trodAll_cons_mk (shut_bool hb _) trodAll_mk0
 ·rw[hsp];exact Ea hl _ _ _ _ _ _ _ hr hA (λx hx=>hbl.same (hlt x hx)) hh
 ·rw[hsp,hvars];rfl
 ·exact ok_one hres rfl (okWide_bool_mk hb _)
end
end
end Go.Proofs.YtknefkdcokgpbaaGreat
