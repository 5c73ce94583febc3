/- Operations compared; wants: valid, and as text. -/
import Derived.Test.YtlhanpkfnhnegaaDoorAvT2
import Derived.Test.YtlhanpkfnhnegaaDoorAvR
set_option linter.unusedVariables false
set_option linter.unusedSimpArgs false
set_option maxRecDepth 100000
namespace Go.Proofs.YtlhanpkfnhnegaaDoor
open Go.ChangeShapes Go.WideShapes Go.RowKit

theorem eqIn_int (w : World) (d : Nat) (a b : Int) : (Op.equalIn (d + 1) 2 (.int .i64 a) (.int .i64 b)).run Tryd.prog w = .ok (a == b) w := by
  have hi := run_underlying (w := w) Tryd.underlying2
  simp [Op.equalIn, hi]
theorem part_int (w : World) (xs : Array Value) (i : Nat) (v : Value) (h : xs[i]? = some v) : (part 2 xs i).run Tryd.prog w = .ok v w := by
  simp [part, Tryd.isAgg2, Tryd.sizeOf2, h]
abbrev DOp.ds (o : DOp) : List AD := [dI o.kind, dI o.a, dI o.b, dI o.c, dI o.d]
def DOp.v (o : DOp) : Value := .agg #[.int .i64 o.kind, .int .i64 o.a, .int .i64 o.b, .int .i64 o.c, .int .i64 o.d]
set_option maxHeartbeats 2000000 in
theorem eqOp_run (p q : DOp) (w : World) : (binOp .eql 25 p.v q.v).run Tryd.prog w = .ok (.bool (p == q)) w := by
  obtain ⟨a, b, c, d, e⟩ := p
  obtain ⟨a', b', c', d', e'⟩ := q
  have h := run_underlying (w := w) Tryd.underlying25
  have hs : Tryd.prog.stoodInHeld 25 = false := by kernel_rfl
  show (do let x ← Op.equalIn (9999 + 1) _ _ _; pure (Value.bool x) : Sem Value).run _ _ = _
  rw [Op.equalIn]
  have key : ∀ x y : Int, (Op.equalIn 9999 2 (.int .i64 x) (.int .i64 y)).run Tryd.prog w = .ok (x == y) w := eqIn_int w 9998
  simp [DOp.v, h, hs, part_int, key]
  repeat' split
  all_goals simp_all
theorem eqOp_guard (p q : DOp) (x y : Operand) (w : World) : (eqGuard .eql 25 x y p.v q.v).run Tryd.prog w = .ok () w := by
  have h : Tryd.prog.eqGuardType Tryd.prog.depth 25 = false := by kernel_rfl
  simp [eqGuard, DOp.v, h]
theorem relV_op {Z : Nat → Prop} {w : World} {ρ : Nat → Value} {p : DOp} {v : Value} (h : RelV Z w ρ (.agg (p.ds.map .d)) v) : v = p.v := by
  cases h with
  | agg _ us hl h =>
    match us, hl, h with
    | [], hl, h => simp at hl
    | [a], hl, h => simp at hl
    | [a, b], hl, h => simp at hl
    | [a, b, c], hl, h => simp at hl
    | [a, b, c, d], hl, h => simp at hl
    | a :: b :: c :: d :: e :: f :: r, hl, h => simp at hl
    | [a, b, c, d, e], hl, h =>
      have ha : a = _ := relD_pl rfl (show RelD Z w (dI p.kind) a from h 0 _ _ rfl rfl)
      have hb : b = _ := relD_pl rfl (show RelD Z w (dI p.a) b from h 1 _ _ rfl rfl)
      have hc : c = _ := relD_pl rfl (show RelD Z w (dI p.b) c from h 2 _ _ rfl rfl)
      have hd : d = _ := relD_pl rfl (show RelD Z w (dI p.c) d from h 3 _ _ rfl rfl)
      have he : e = _ := relD_pl rfl (show RelD Z w (dI p.d) e from h 4 _ _ rfl rfl)
      subst ha hb hc hd he
      rfl
/-- Two operations compared. -/
theorem AOp.eqOp {S : Base} {o : Oper} {st : ASt} {K : ASt → Prop} {x y : Operand} {t2 : TypeId} (p q : DOp) (ho : o.op = .binOp .eql 25 x y t2) (hx : aEv st x fun v => v = .agg (p.ds.map .d)) (hy : aEv st y fun v => v = .agg (q.ds.map .d)) (hk : aDst st o.dst (vB (p == q)) K) : AOp av S o st K := by
  refine .reads fun Z ρ a w hs => ?_
  obtain ⟨v, hv, rfl⟩ := aEv_get hs hx
  obtain ⟨u, hu, rfl⟩ := aEv_get hs hy
  have e1 := relV_op hv
  have e2 := relV_op hu
  refine ⟨_, .bool (p == q), relV_of_pv rfl, ?_, hk⟩
  have h1 := eqOp_guard p q x y w
  have h2 := eqOp_run p q w
  simp [execOp, ho, e1, e2, av, h1, h2]

def wantOk (x : DWant) : Bool := if x.kind == 4 then (x.op == ⟨0, 0, 0, 0, 0⟩ && betweenB x.key 0 9) else if x.kind == 1 || x.kind == 2 || x.kind == 3 then (opOk x.op && x.op.kind == x.kind && x.key == 0) else false
def DWant.ds (e : DWant) : List AD := [dI e.kind, dI e.op.kind, dI e.op.a, dI e.op.b, dI e.op.c, dI e.op.d, dI e.key]
theorem iWantOk_p (x : DWant) : PCall av 79 [.agg x.ds] (rB (wantOk x)) := by
  refine pcall_of av_ok Tryd.func79 rfl Tryd.call79 Tryd.ntmps79 (congrArg Array.toList Tryd.results79) fun S => ?_; conv => whnf
  repeat' (first | (refine AWP.seq ?_) | (refine AWP.region av_ok ?_; conv => whnf) | (refine AWP.ret ?_; conv => whnf) | (refine AWP.skip ?_; conv => whnf) | (refine AWP.exit ?_; conv => whnf) | (refine AWP.block ?_; conv => whnf) | (refine AWP.cond ?_; conv => whnf) | (refine AB.tt ?_; conv => whnf) | (refine AB.ff ?_; conv => whnf) | (refine ACall.pure (iOpOk_p x.op) rfl ?_; conv => whnf) | (refine ACall.pure (ikeyOk_p _) rfl ?_; conv => whnf) | (refine AOp.eqOp x.op ⟨0, 0, 0, 0, 0⟩ rfl rfl rfl ?_; conv => whnf) | (refine AB.ofT (by assumption) ?_; conv => whnf) | (refine AB.ofF (by assumption) ?_; conv => whnf) | (exact trivial) | (refine And.intro rfl ?_; conv => whnf) | (refine AB.mk (fun h => ?_) (fun h => ?_) <;> (conv => whnf)) | (with_reducible_and_instances rfl) | (exact (rfl : AP.tup _ = AP.tup _)))
  all_goals simp_all [wantOk]
def l13N (k : Int) : Int := if k == 1 then 1 else if k == 2 then 2 else if k == 3 then 3 else 0
theorem wantOk_alt {x : DWant} (h : (x.kind == 4) = false) : wantOk x = (l13N x.kind != 0 && x.op.kind == l13N x.kind && opOk x.op && x.key == 0) := by
  unfold wantOk l13N
  rw [h]
  cases h1 : (x.kind == 1) <;> cases h2 : (x.kind == 2) <;> cases h3 : (x.kind == 3) <;> simp_all [Bool.and_comm, Bool.and_assoc]
theorem sl13Op_p (k : Int) : PCall av 133 [pI k] (rI (l13N k)) := by
  refine pcall_of av_ok Tryd.func133 rfl Tryd.call133 Tryd.ntmps133 (congrArg Array.toList Tryd.results133) fun S => ?_; conv => whnf
  repeat' (first | (refine AWP.seq ?_) | (refine AWP.region av_ok ?_; conv => whnf) | (refine AWP.ret ?_; conv => whnf) | (refine AWP.skip ?_; conv => whnf) | (refine AWP.exit ?_; conv => whnf) | (refine AWP.block ?_; conv => whnf) | (refine AWP.cond ?_; conv => whnf) | (refine AB.tt ?_; conv => whnf) | (refine AB.ff ?_; conv => whnf) | (refine AB.ofT (by assumption) ?_; conv => whnf) | (refine AB.ofF (by assumption) ?_; conv => whnf) | (exact trivial) | (refine And.intro rfl ?_; conv => whnf) | (refine AB.mk (fun h => ?_) (fun h => ?_) <;> (conv => whnf)) | (with_reducible_and_instances rfl) | (exact (rfl : AP.tup _ = AP.tup _)))
  all_goals simp_all [l13N]
theorem sWantOk_p (x : DWant) : PCall av 78 [.agg x.ds] (rB (wantOk x)) := by
  refine pcall_of av_ok Tryd.func78 rfl Tryd.call78 Tryd.ntmps78 (congrArg Array.toList Tryd.results78) fun S => ?_; conv => whnf
  repeat' (first | (refine AWP.seq ?_) | (refine AWP.region av_ok ?_; conv => whnf) | (refine AWP.ret ?_; conv => whnf) | (refine AWP.skip ?_; conv => whnf) | (refine AWP.exit ?_; conv => whnf) | (refine AWP.block ?_; conv => whnf) | (refine AWP.cond ?_; conv => whnf) | (refine AB.tt ?_; conv => whnf) | (refine AB.ff ?_; conv => whnf) | (refine ACall.pure (sOpOk_p x.op) rfl ?_; conv => whnf) | (refine ACall.pure (sl7Key_p _) rfl ?_; conv => whnf) | (refine AOp.eqOp x.op ⟨0, 0, 0, 0, 0⟩ rfl rfl rfl ?_; conv => whnf) | (refine AB.ofT (by assumption) ?_; conv => whnf) | (refine AB.ofF (by assumption) ?_; conv => whnf) | (exact trivial) | (refine And.intro rfl ?_; conv => whnf) | (refine AB.mk (fun h => ?_) (fun h => ?_) <;> (conv => whnf)) | (with_reducible_and_instances rfl) | (exact (rfl : AP.tup _ = AP.tup _)))
  · simp_all [wantOk]
  · simp_all [wantOk]
  · cases h1 : (l13N x.kind != 0)
    all_goals
      refine' AWP.draw av_ok 11 [[], [0], [0, 1], [1, 0, 2], [2, 0, 1, 3], [3, 1, 0, 2, 4], [4, 2, 0, 1, 3, 5], [5, 3, 1, 0, 2, 4, 6], [3, 1, 0, 2, 4], [4, 2, 0, 1, 3, 8], [8, 3, 1, 0, 2, 4, 9], [9, 8, 10, 6, 4, 2, 0, 1, 3, 5, 7], [7, 5, 6, 10, 8, 9, 11, 3, 1, 0, 2, 4], [4, 2, 0, 1, 3, 11, 9, 8, 10, 6, 5, 7, 12], [12, 7, 5, 6, 10, 8, 9, 11, 3, 1, 0, 2, 4, 13], [13, 4, 2, 0, 1, 3, 11, 9, 8, 10, 6, 5, 7, 12, 14], [14, 12, 7, 5, 6, 10, 8, 9, 11, 3, 1, 0, 2, 4, 13, 15], [15, 14, 16, 12, 7, 5, 6, 10, 8, 9, 11, 3, 1, 0, 2, 4, 13], [13, 4, 2, 0, 1, 3, 11, 9, 8, 10, 6, 5, 7, 12, 16, 14, 15, 17], [17, 15, 14, 16, 12, 7, 5, 6, 10, 8, 9, 11, 3, 1, 0, 2, 4, 13, 18], [18, 13, 4, 2, 0, 1, 3, 11, 9, 8, 10, 6, 5, 7, 12, 16, 14, 15, 17, 19], [19, 17, 15, 14, 16, 12, 7, 5, 6, 10, 8, 9, 11, 3, 1, 0, 2, 4, 13, 18, 20], [20, 19, 21, 17, 15, 14, 16, 12, 7, 5, 6, 10, 8, 9, 11, 3, 1, 0, 2, 4, 13, 18], [18, 13, 4, 2, 0, 1, 3, 11, 9, 8, 10, 6, 5, 7, 12, 16, 14, 15, 17, 21, 19, 20, 22]] [(_, _), (_, _), (_, _), (_, _), (_, _), (_, _), (_, _), (_, _), (_, _), (_, _), (_, _)] ?hD ?hok ?hl ?hf ?hno ?ht
      case hD => kernel_rfl
      case hok => kernel_rfl
      case hl => rfl
      case hf =>
        conv => whnf
        repeat' (first | (refine ⟨rfl, rfl⟩) | exact trivial | (refine AFCall.mk ⟨_, _, sl13Op_p x.kind, .inl rfl, ?_⟩; conv => whnf) | (refine AFCall.mk ⟨_, _, sOpOk_p x.op, .inl rfl, ?_⟩; conv => whnf) | (refine AB.ofT (by assumption) ?_; conv => whnf) | (refine AB.ofF (by assumption) ?_; conv => whnf) | exact rfl | (refine And.intro ?_ ?_ <;> conv => whnf))
      case hno => rfl
      case ht =>
        conv => whnf
        repeat' (first | (refine AWP.seq ?_) | (refine AWP.region av_ok ?_; conv => whnf) | (refine AWP.ret ?_; conv => whnf) | (refine AWP.skip ?_; conv => whnf) | (refine AWP.exit ?_; conv => whnf) | (refine AWP.block ?_; conv => whnf) | (refine AWP.cond ?_; conv => whnf) | (refine AB.tt ?_; conv => whnf) | (refine AB.ff ?_; conv => whnf) | (refine ACall.pure (sl13Op_p x.kind) rfl ?_; conv => whnf) | (refine ACall.pure (sOpOk_p x.op) rfl ?_; conv => whnf) | (refine AB.ofT (by assumption) ?_; conv => whnf) | (refine AB.ofF (by assumption) ?_; conv => whnf) | (exact trivial) | (refine And.intro rfl ?_; conv => whnf) | (refine AB.mk (fun h => ?_) (fun h => ?_) <;> (conv => whnf)) | (with_reducible_and_instances rfl) | (exact (rfl : AP.tup _ = AP.tup _)))
        all_goals simp_all [wantOk_alt]
end Go.Proofs.YtlhanpkfnhnegaaDoor
