/- Structs of numbers compared (gen_weq.py). -/
import Derived.Test.YtmgcnmdbhahhlaaGreatJ04
import Derived.Test.YtmgcnmdbhahhlaaGreatJ03
set_option linter.unusedVariables false
set_option linter.unusedSimpArgs false
set_option maxRecDepth 100000
namespace Go.Proofs.YtmgcnmdbhahhlaaGreat
open Go.ChangeShapes Go.WideShapes Go.RowKit

structure EqAt (op : BinOp) (t : TypeId) (ds es : List AD) (r : Bool) : Prop where
  guard : ∀ (x y : Operand) w, (eqGuard op t x y (.agg (ds.map pvOf).toArray) (.agg (es.map pvOf).toArray)).run Tryz.prog w = .ok () w
  run : ∀ w, (binOp op t (.agg (ds.map pvOf).toArray) (.agg (es.map pvOf).toArray)).run Tryz.prog w = .ok (.bool r) w
theorem EqAt.reads {op : BinOp} {t t2 : TypeId} {ds es : List AD} {r : Bool} (he : EqAt op t ds es r) (hd : ds.all AD.isPv = true) (hd2 : es.all AD.isPv = true) {S : Base} {Z : Nat → Prop} {ρ : Nat → Value} {st : ASt} {a : Act} {w : World} {o : Oper} {x y : Operand}
    (ho : o.op = .binOp op t x y t2) (hx : aEv st x fun v => v = .agg (ds.map .d)) (hy : aEv st y fun v => v = .agg (es.map .d)) (hs : Sim av.W S Z ρ st a w) : ∃ u, RelV Z w ρ (vB r) u ∧ (execOp a.eval o).run av.P w = .ok (.value u) w := by
  obtain ⟨v, hv, rfl⟩ := aEv_get hs hx
  obtain ⟨u, hu, rfl⟩ := aEv_get hs hy
  have e1 := relV_pvs hd hv
  have e2 := relV_pvs hd2 hu
  have h1 := he.guard x y w
  have h2 := he.run w
  exact ⟨.bool r, relV_of_pv rfl, by simp [execOp, ho, e1, e2, av, h1, h2]⟩
theorem AOp.eqs {op : BinOp} {t t2 : TypeId} {ds es : List AD} {r : Bool} (he : EqAt op t ds es r) {S : Base} {st : ASt} {o : Oper} {x y : Operand} {K : ASt → Prop} (ho : o.op = .binOp op t x y t2) (hx : aEv st x fun v => v = .agg (ds.map .d)) (hy : aEv st y fun v => v = .agg (es.map .d)) (hd : ds.all AD.isPv = true) (hd2 : es.all AD.isPv = true) (hk : aDst st o.dst (vB r) K) : AOp av S o st K :=
  .reads fun Z ρ a w hs => by
    obtain ⟨u, hu, hr⟩ := he.reads hd hd2 ho hx hy hs
    exact ⟨_, u, hu, hr, hk⟩
theorem AFRd.eqs {op : BinOp} {t t2 : TypeId} {ds es : List AD} {r : Bool} (he : EqAt op t ds es r) {st : ASt} {o : Oper} {x y : Operand} {K : AV → Prop} (ho : o.op = .binOp op t x y t2) (hx : aEv st x fun v => v = .agg (ds.map .d)) (hy : aEv st y fun v => v = .agg (es.map .d)) (hd : ds.all AD.isPv = true) (hd2 : es.all AD.isPv = true) (hk : K (vB r)) : AFRd av o st K :=
  ⟨_, hk, fun S Z ρ a w hs => he.reads hd hd2 ho hx hy hs⟩
theorem wI (w : World) (d : Nat) (a b : Int) : (Op.equalIn (d + 1) 2 (.int .i64 a) (.int .i64 b)).run Tryz.prog w = .ok (a == b) w := eqIn_int w d a b

abbrev vI64W (x : Int) : Value := .int .i64 x
set_option maxHeartbeats 2000000 in
theorem eqlMark_run (p q : DMark) (w : World) : (binOp .eql 258 (.agg #[vI64W p.client, vI64W p.seq, vI64W p.index]) (.agg #[vI64W q.client, vI64W q.seq, vI64W q.index])).run Tryz.prog w = .ok (.bool (p == q)) w := by
  obtain ⟨a0, a1, a2⟩ := p
  obtain ⟨b0, b1, b2⟩ := q
  have h := run_underlying (w := w) Tryz.underlying258
  have hs : Tryz.prog.stoodInHeld 258 = false := by kernel_rfl
  show (do let x ← Op.equalIn (9999 + 1) _ _ _; pure (Value.bool x) : Sem Value).run _ _ = _
  rw [Op.equalIn]
  have key : ∀ x y : Int, (Op.equalIn 9999 2 (.int .i64 x) (.int .i64 y)).run Tryz.prog w = .ok (x == y) w := wI w 9998
  simp [h, hs, part_int, key]
  repeat' split
  all_goals simp_all
theorem eqlMark_at (p q : DMark) : EqAt .eql 258 p.ds q.ds (p == q) := by
  refine ⟨fun x y w => ?_, fun w => eqlMark_run p q w⟩
  have h : Tryz.prog.eqGuardType Tryz.prog.depth 258 = false := by kernel_rfl
  simp [eqGuard, h]
set_option maxHeartbeats 2000000 in
theorem neqMark_run (p q : DMark) (w : World) : (binOp .neq 258 (.agg #[vI64W p.client, vI64W p.seq, vI64W p.index]) (.agg #[vI64W q.client, vI64W q.seq, vI64W q.index])).run Tryz.prog w = .ok (.bool (!(p == q))) w := by
  obtain ⟨a0, a1, a2⟩ := p
  obtain ⟨b0, b1, b2⟩ := q
  have h := run_underlying (w := w) Tryz.underlying258
  have hs : Tryz.prog.stoodInHeld 258 = false := by kernel_rfl
  show (do let x ← Op.equalIn (9999 + 1) _ _ _; pure (Value.bool !x) : Sem Value).run _ _ = _
  rw [Op.equalIn]
  have key : ∀ x y : Int, (Op.equalIn 9999 2 (.int .i64 x) (.int .i64 y)).run Tryz.prog w = .ok (x == y) w := wI w 9998
  simp [h, hs, part_int, key]
  repeat' split
  all_goals simp_all
theorem neqMark_at (p q : DMark) : EqAt .neq 258 p.ds q.ds (!(p == q)) := by
  refine ⟨fun x y w => ?_, fun w => neqMark_run p q w⟩
  have h : Tryz.prog.eqGuardType Tryz.prog.depth 258 = false := by kernel_rfl
  simp [eqGuard, h]
set_option maxHeartbeats 2000000 in
theorem eqlAck_run (p q : DAck) (w : World) : (binOp .eql 262 (.agg #[vI64W p.client, vI64W p.seq, vI64W p.index, vI64W p.last]) (.agg #[vI64W q.client, vI64W q.seq, vI64W q.index, vI64W q.last])).run Tryz.prog w = .ok (.bool (p == q)) w := by
  obtain ⟨a0, a1, a2, a3⟩ := p
  obtain ⟨b0, b1, b2, b3⟩ := q
  have h := run_underlying (w := w) Tryz.underlying262
  have hs : Tryz.prog.stoodInHeld 262 = false := by kernel_rfl
  show (do let x ← Op.equalIn (9999 + 1) _ _ _; pure (Value.bool x) : Sem Value).run _ _ = _
  rw [Op.equalIn]
  have key : ∀ x y : Int, (Op.equalIn 9999 2 (.int .i64 x) (.int .i64 y)).run Tryz.prog w = .ok (x == y) w := wI w 9998
  simp [h, hs, part_int, key]
  repeat' split
  all_goals simp_all
theorem eqlAck_at (p q : DAck) : EqAt .eql 262 p.ds q.ds (p == q) := by
  refine ⟨fun x y w => ?_, fun w => eqlAck_run p q w⟩
  have h : Tryz.prog.eqGuardType Tryz.prog.depth 262 = false := by kernel_rfl
  simp [eqGuard, h]
set_option maxHeartbeats 2000000 in
theorem neqAck_run (p q : DAck) (w : World) : (binOp .neq 262 (.agg #[vI64W p.client, vI64W p.seq, vI64W p.index, vI64W p.last]) (.agg #[vI64W q.client, vI64W q.seq, vI64W q.index, vI64W q.last])).run Tryz.prog w = .ok (.bool (!(p == q))) w := by
  obtain ⟨a0, a1, a2, a3⟩ := p
  obtain ⟨b0, b1, b2, b3⟩ := q
  have h := run_underlying (w := w) Tryz.underlying262
  have hs : Tryz.prog.stoodInHeld 262 = false := by kernel_rfl
  show (do let x ← Op.equalIn (9999 + 1) _ _ _; pure (Value.bool !x) : Sem Value).run _ _ = _
  rw [Op.equalIn]
  have key : ∀ x y : Int, (Op.equalIn 9999 2 (.int .i64 x) (.int .i64 y)).run Tryz.prog w = .ok (x == y) w := wI w 9998
  simp [h, hs, part_int, key]
  repeat' split
  all_goals simp_all
theorem neqAck_at (p q : DAck) : EqAt .neq 262 p.ds q.ds (!(p == q)) := by
  refine ⟨fun x y w => ?_, fun w => neqAck_run p q w⟩
  have h : Tryz.prog.eqGuardType Tryz.prog.depth 262 = false := by kernel_rfl
  simp [eqGuard, h]
set_option maxHeartbeats 2000000 in
theorem eqlPair_run (p q : DPair) (w : World) : (binOp .eql 321 (.agg #[vI64W p.key, vI64W p.value]) (.agg #[vI64W q.key, vI64W q.value])).run Tryz.prog w = .ok (.bool (p == q)) w := by
  obtain ⟨a0, a1⟩ := p
  obtain ⟨b0, b1⟩ := q
  have h := run_underlying (w := w) Tryz.underlying321
  have hs : Tryz.prog.stoodInHeld 321 = false := by kernel_rfl
  show (do let x ← Op.equalIn (9999 + 1) _ _ _; pure (Value.bool x) : Sem Value).run _ _ = _
  rw [Op.equalIn]
  have key : ∀ x y : Int, (Op.equalIn 9999 2 (.int .i64 x) (.int .i64 y)).run Tryz.prog w = .ok (x == y) w := wI w 9998
  simp [h, hs, part_int, key]
  repeat' split
  all_goals simp_all
theorem eqlPair_at (p q : DPair) : EqAt .eql 321 p.ds q.ds (p == q) := by
  refine ⟨fun x y w => ?_, fun w => eqlPair_run p q w⟩
  have h : Tryz.prog.eqGuardType Tryz.prog.depth 321 = false := by kernel_rfl
  simp [eqGuard, h]
set_option maxHeartbeats 2000000 in
theorem neqPair_run (p q : DPair) (w : World) : (binOp .neq 321 (.agg #[vI64W p.key, vI64W p.value]) (.agg #[vI64W q.key, vI64W q.value])).run Tryz.prog w = .ok (.bool (!(p == q))) w := by
  obtain ⟨a0, a1⟩ := p
  obtain ⟨b0, b1⟩ := q
  have h := run_underlying (w := w) Tryz.underlying321
  have hs : Tryz.prog.stoodInHeld 321 = false := by kernel_rfl
  show (do let x ← Op.equalIn (9999 + 1) _ _ _; pure (Value.bool !x) : Sem Value).run _ _ = _
  rw [Op.equalIn]
  have key : ∀ x y : Int, (Op.equalIn 9999 2 (.int .i64 x) (.int .i64 y)).run Tryz.prog w = .ok (x == y) w := wI w 9998
  simp [h, hs, part_int, key]
  repeat' split
  all_goals simp_all
theorem neqPair_at (p q : DPair) : EqAt .neq 321 p.ds q.ds (!(p == q)) := by
  refine ⟨fun x y w => ?_, fun w => neqPair_run p q w⟩
  have h : Tryz.prog.eqGuardType Tryz.prog.depth 321 = false := by kernel_rfl
  simp [eqGuard, h]
set_option maxHeartbeats 2000000 in
theorem eqlJob_run (p q : DJob) (w : World) : (binOp .eql 168 (.agg #[vI64W p.id, vI64W p.due, vI64W p.key, vI64W p.value, vI64W p.fired]) (.agg #[vI64W q.id, vI64W q.due, vI64W q.key, vI64W q.value, vI64W q.fired])).run Tryz.prog w = .ok (.bool (p == q)) w := by
  obtain ⟨a0, a1, a2, a3, a4⟩ := p
  obtain ⟨b0, b1, b2, b3, b4⟩ := q
  have h := run_underlying (w := w) Tryz.underlying168
  have hs : Tryz.prog.stoodInHeld 168 = false := by kernel_rfl
  show (do let x ← Op.equalIn (9999 + 1) _ _ _; pure (Value.bool x) : Sem Value).run _ _ = _
  rw [Op.equalIn]
  have key : ∀ x y : Int, (Op.equalIn 9999 2 (.int .i64 x) (.int .i64 y)).run Tryz.prog w = .ok (x == y) w := wI w 9998
  simp [h, hs, part_int, key]
  repeat' split
  all_goals simp_all
theorem eqlJob_at (p q : DJob) : EqAt .eql 168 p.ds q.ds (p == q) := by
  refine ⟨fun x y w => ?_, fun w => eqlJob_run p q w⟩
  have h : Tryz.prog.eqGuardType Tryz.prog.depth 168 = false := by kernel_rfl
  simp [eqGuard, h]
set_option maxHeartbeats 2000000 in
theorem neqJob_run (p q : DJob) (w : World) : (binOp .neq 168 (.agg #[vI64W p.id, vI64W p.due, vI64W p.key, vI64W p.value, vI64W p.fired]) (.agg #[vI64W q.id, vI64W q.due, vI64W q.key, vI64W q.value, vI64W q.fired])).run Tryz.prog w = .ok (.bool (!(p == q))) w := by
  obtain ⟨a0, a1, a2, a3, a4⟩ := p
  obtain ⟨b0, b1, b2, b3, b4⟩ := q
  have h := run_underlying (w := w) Tryz.underlying168
  have hs : Tryz.prog.stoodInHeld 168 = false := by kernel_rfl
  show (do let x ← Op.equalIn (9999 + 1) _ _ _; pure (Value.bool !x) : Sem Value).run _ _ = _
  rw [Op.equalIn]
  have key : ∀ x y : Int, (Op.equalIn 9999 2 (.int .i64 x) (.int .i64 y)).run Tryz.prog w = .ok (x == y) w := wI w 9998
  simp [h, hs, part_int, key]
  repeat' split
  all_goals simp_all
theorem neqJob_at (p q : DJob) : EqAt .neq 168 p.ds q.ds (!(p == q)) := by
  refine ⟨fun x y w => ?_, fun w => neqJob_run p q w⟩
  have h : Tryz.prog.eqGuardType Tryz.prog.depth 168 = false := by kernel_rfl
  simp [eqGuard, h]
set_option maxHeartbeats 2000000 in
theorem eqlDue_run (p q : DDue) (w : World) : (binOp .eql 233 (.agg #[vI64W p.id, vI64W p.due]) (.agg #[vI64W q.id, vI64W q.due])).run Tryz.prog w = .ok (.bool (p == q)) w := by
  obtain ⟨a0, a1⟩ := p
  obtain ⟨b0, b1⟩ := q
  have h := run_underlying (w := w) Tryz.underlying233
  have hs : Tryz.prog.stoodInHeld 233 = false := by kernel_rfl
  show (do let x ← Op.equalIn (9999 + 1) _ _ _; pure (Value.bool x) : Sem Value).run _ _ = _
  rw [Op.equalIn]
  have key : ∀ x y : Int, (Op.equalIn 9999 2 (.int .i64 x) (.int .i64 y)).run Tryz.prog w = .ok (x == y) w := wI w 9998
  simp [h, hs, part_int, key]
  repeat' split
  all_goals simp_all
theorem eqlDue_at (p q : DDue) : EqAt .eql 233 p.ds q.ds (p == q) := by
  refine ⟨fun x y w => ?_, fun w => eqlDue_run p q w⟩
  have h : Tryz.prog.eqGuardType Tryz.prog.depth 233 = false := by kernel_rfl
  simp [eqGuard, h]
set_option maxHeartbeats 2000000 in
theorem neqDue_run (p q : DDue) (w : World) : (binOp .neq 233 (.agg #[vI64W p.id, vI64W p.due]) (.agg #[vI64W q.id, vI64W q.due])).run Tryz.prog w = .ok (.bool (!(p == q))) w := by
  obtain ⟨a0, a1⟩ := p
  obtain ⟨b0, b1⟩ := q
  have h := run_underlying (w := w) Tryz.underlying233
  have hs : Tryz.prog.stoodInHeld 233 = false := by kernel_rfl
  show (do let x ← Op.equalIn (9999 + 1) _ _ _; pure (Value.bool !x) : Sem Value).run _ _ = _
  rw [Op.equalIn]
  have key : ∀ x y : Int, (Op.equalIn 9999 2 (.int .i64 x) (.int .i64 y)).run Tryz.prog w = .ok (x == y) w := wI w 9998
  simp [h, hs, part_int, key]
  repeat' split
  all_goals simp_all
theorem neqDue_at (p q : DDue) : EqAt .neq 233 p.ds q.ds (!(p == q)) := by
  refine ⟨fun x y w => ?_, fun w => neqDue_run p q w⟩
  have h : Tryz.prog.eqGuardType Tryz.prog.depth 233 = false := by kernel_rfl
  simp [eqGuard, h]
set_option maxHeartbeats 2000000 in
theorem eqlLease_run (p q : DLease) (w : World) : (binOp .eql 84 (.agg #[vI64W p.holder, vI64W p.epoch, vI64W p.til]) (.agg #[vI64W q.holder, vI64W q.epoch, vI64W q.til])).run Tryz.prog w = .ok (.bool (p == q)) w := by
  obtain ⟨a0, a1, a2⟩ := p
  obtain ⟨b0, b1, b2⟩ := q
  have h := run_underlying (w := w) Tryz.underlying84
  have hs : Tryz.prog.stoodInHeld 84 = false := by kernel_rfl
  show (do let x ← Op.equalIn (9999 + 1) _ _ _; pure (Value.bool x) : Sem Value).run _ _ = _
  rw [Op.equalIn]
  have key : ∀ x y : Int, (Op.equalIn 9999 2 (.int .i64 x) (.int .i64 y)).run Tryz.prog w = .ok (x == y) w := wI w 9998
  simp [h, hs, part_int, key]
  repeat' split
  all_goals simp_all
theorem eqlLease_at (p q : DLease) : EqAt .eql 84 p.ds q.ds (p == q) := by
  refine ⟨fun x y w => ?_, fun w => eqlLease_run p q w⟩
  have h : Tryz.prog.eqGuardType Tryz.prog.depth 84 = false := by kernel_rfl
  simp [eqGuard, h]
set_option maxHeartbeats 2000000 in
theorem neqLease_run (p q : DLease) (w : World) : (binOp .neq 84 (.agg #[vI64W p.holder, vI64W p.epoch, vI64W p.til]) (.agg #[vI64W q.holder, vI64W q.epoch, vI64W q.til])).run Tryz.prog w = .ok (.bool (!(p == q))) w := by
  obtain ⟨a0, a1, a2⟩ := p
  obtain ⟨b0, b1, b2⟩ := q
  have h := run_underlying (w := w) Tryz.underlying84
  have hs : Tryz.prog.stoodInHeld 84 = false := by kernel_rfl
  show (do let x ← Op.equalIn (9999 + 1) _ _ _; pure (Value.bool !x) : Sem Value).run _ _ = _
  rw [Op.equalIn]
  have key : ∀ x y : Int, (Op.equalIn 9999 2 (.int .i64 x) (.int .i64 y)).run Tryz.prog w = .ok (x == y) w := wI w 9998
  simp [h, hs, part_int, key]
  repeat' split
  all_goals simp_all
theorem neqLease_at (p q : DLease) : EqAt .neq 84 p.ds q.ds (!(p == q)) := by
  refine ⟨fun x y w => ?_, fun w => neqLease_run p q w⟩
  have h : Tryz.prog.eqGuardType Tryz.prog.depth 84 = false := by kernel_rfl
  simp [eqGuard, h]
set_option maxHeartbeats 2000000 in
theorem inOp (d : Nat) (p q : DOp) (w : World) : (Op.equalIn (d + 2) 94 (.agg #[vI64W p.kind, vI64W p.a, vI64W p.b, vI64W p.c, vI64W p.d]) (.agg #[vI64W q.kind, vI64W q.a, vI64W q.b, vI64W q.c, vI64W q.d])).run Tryz.prog w = .ok (p == q) w := by
  obtain ⟨a0, a1, a2, a3, a4⟩ := p
  obtain ⟨b0, b1, b2, b3, b4⟩ := q
  have h := run_underlying (w := w) Tryz.underlying94
  have hs : Tryz.prog.stoodInHeld 94 = false := by kernel_rfl
  rw [Op.equalIn]
  have key : ∀ x y : Int, (Op.equalIn (d + 1) 2 (.int .i64 x) (.int .i64 y)).run Tryz.prog w = .ok (x == y) w := wI w d
  simp [h, hs, part_int, key]
  repeat' split
  all_goals simp_all
set_option maxHeartbeats 2000000 in
theorem eqlOp_run (p q : DOp) (w : World) : (binOp .eql 94 (.agg #[vI64W p.kind, vI64W p.a, vI64W p.b, vI64W p.c, vI64W p.d]) (.agg #[vI64W q.kind, vI64W q.a, vI64W q.b, vI64W q.c, vI64W q.d])).run Tryz.prog w = .ok (.bool (p == q)) w := by
  obtain ⟨a0, a1, a2, a3, a4⟩ := p
  obtain ⟨b0, b1, b2, b3, b4⟩ := q
  have h := run_underlying (w := w) Tryz.underlying94
  have hs : Tryz.prog.stoodInHeld 94 = false := by kernel_rfl
  show (do let x ← Op.equalIn (9999 + 1) _ _ _; pure (Value.bool x) : Sem Value).run _ _ = _
  rw [Op.equalIn]
  have key : ∀ x y : Int, (Op.equalIn 9999 2 (.int .i64 x) (.int .i64 y)).run Tryz.prog w = .ok (x == y) w := wI w 9998
  simp [h, hs, part_int, key]
  repeat' split
  all_goals simp_all
theorem eqlOp_at (p q : DOp) : EqAt .eql 94 p.ds q.ds (p == q) := by
  refine ⟨fun x y w => ?_, fun w => eqlOp_run p q w⟩
  have h : Tryz.prog.eqGuardType Tryz.prog.depth 94 = false := by kernel_rfl
  simp [eqGuard, h]
set_option maxHeartbeats 2000000 in
theorem neqOp_run (p q : DOp) (w : World) : (binOp .neq 94 (.agg #[vI64W p.kind, vI64W p.a, vI64W p.b, vI64W p.c, vI64W p.d]) (.agg #[vI64W q.kind, vI64W q.a, vI64W q.b, vI64W q.c, vI64W q.d])).run Tryz.prog w = .ok (.bool (!(p == q))) w := by
  obtain ⟨a0, a1, a2, a3, a4⟩ := p
  obtain ⟨b0, b1, b2, b3, b4⟩ := q
  have h := run_underlying (w := w) Tryz.underlying94
  have hs : Tryz.prog.stoodInHeld 94 = false := by kernel_rfl
  show (do let x ← Op.equalIn (9999 + 1) _ _ _; pure (Value.bool !x) : Sem Value).run _ _ = _
  rw [Op.equalIn]
  have key : ∀ x y : Int, (Op.equalIn 9999 2 (.int .i64 x) (.int .i64 y)).run Tryz.prog w = .ok (x == y) w := wI w 9998
  simp [h, hs, part_int, key]
  repeat' split
  all_goals simp_all
theorem neqOp_at (p q : DOp) : EqAt .neq 94 p.ds q.ds (!(p == q)) := by
  refine ⟨fun x y w => ?_, fun w => neqOp_run p q w⟩
  have h : Tryz.prog.eqGuardType Tryz.prog.depth 94 = false := by kernel_rfl
  simp [eqGuard, h]
set_option maxHeartbeats 2000000 in
theorem eqlEntry_run (p q : DEntry) (w : World) : (binOp .eql 301 (.agg #[vI64W p.index, vI64W p.time, vI64W p.client, vI64W p.seq, vI64W p.op.kind, vI64W p.op.a, vI64W p.op.b, vI64W p.op.c, vI64W p.op.d]) (.agg #[vI64W q.index, vI64W q.time, vI64W q.client, vI64W q.seq, vI64W q.op.kind, vI64W q.op.a, vI64W q.op.b, vI64W q.op.c, vI64W q.op.d])).run Tryz.prog w = .ok (.bool (p == q)) w := by
  obtain ⟨a0, a1, a2, a3, a4⟩ := p
  obtain ⟨b0, b1, b2, b3, b4⟩ := q
  have h := run_underlying (w := w) Tryz.underlying301
  have hs : Tryz.prog.stoodInHeld 301 = false := by kernel_rfl
  have kop : ∀ o o' : DOp, (Op.equalIn 9999 94 (.agg #[vI64W o.kind, vI64W o.a, vI64W o.b, vI64W o.c, vI64W o.d]) (.agg #[vI64W o'.kind, vI64W o'.a, vI64W o'.b, vI64W o'.c, vI64W o'.d])).run Tryz.prog w = .ok (o == o') w := fun o o' => inOp 9997 o o' w
  have po : ∀ (xs : Array Value) (o : DOp), xs.extract 4 9 = #[vI64W o.kind, vI64W o.a, vI64W o.b, vI64W o.c, vI64W o.d] → (part 94 xs 4).run Tryz.prog w = .ok (.agg #[vI64W o.kind, vI64W o.a, vI64W o.b, vI64W o.c, vI64W o.d]) w := fun xs o h => by
    simp [part, Tryz.isAgg94, Tryz.sizeOf94, h]
  show (do let x ← Op.equalIn (9999 + 1) _ _ _; pure (Value.bool x) : Sem Value).run _ _ = _
  rw [Op.equalIn]
  have key : ∀ x y : Int, (Op.equalIn 9999 2 (.int .i64 x) (.int .i64 y)).run Tryz.prog w = .ok (x == y) w := wI w 9998
  have p1 := po #[vI64W a0, vI64W a1, vI64W a2, vI64W a3, vI64W a4.kind, vI64W a4.a, vI64W a4.b, vI64W a4.c, vI64W a4.d] a4 rfl
  have p2 := po #[vI64W b0, vI64W b1, vI64W b2, vI64W b3, vI64W b4.kind, vI64W b4.a, vI64W b4.b, vI64W b4.c, vI64W b4.d] b4 rfl
  simp [h, hs, part_int, key, kop, p1, p2]
  repeat' split
  all_goals simp_all
theorem eqlEntry_at (p q : DEntry) : EqAt .eql 301 p.ds q.ds (p == q) := by
  refine ⟨fun x y w => ?_, fun w => eqlEntry_run p q w⟩
  have h : Tryz.prog.eqGuardType Tryz.prog.depth 301 = false := by kernel_rfl
  simp [eqGuard, h]
set_option maxHeartbeats 2000000 in
theorem neqEntry_run (p q : DEntry) (w : World) : (binOp .neq 301 (.agg #[vI64W p.index, vI64W p.time, vI64W p.client, vI64W p.seq, vI64W p.op.kind, vI64W p.op.a, vI64W p.op.b, vI64W p.op.c, vI64W p.op.d]) (.agg #[vI64W q.index, vI64W q.time, vI64W q.client, vI64W q.seq, vI64W q.op.kind, vI64W q.op.a, vI64W q.op.b, vI64W q.op.c, vI64W q.op.d])).run Tryz.prog w = .ok (.bool (!(p == q))) w := by
  obtain ⟨a0, a1, a2, a3, a4⟩ := p
  obtain ⟨b0, b1, b2, b3, b4⟩ := q
  have h := run_underlying (w := w) Tryz.underlying301
  have hs : Tryz.prog.stoodInHeld 301 = false := by kernel_rfl
  have kop : ∀ o o' : DOp, (Op.equalIn 9999 94 (.agg #[vI64W o.kind, vI64W o.a, vI64W o.b, vI64W o.c, vI64W o.d]) (.agg #[vI64W o'.kind, vI64W o'.a, vI64W o'.b, vI64W o'.c, vI64W o'.d])).run Tryz.prog w = .ok (o == o') w := fun o o' => inOp 9997 o o' w
  have po : ∀ (xs : Array Value) (o : DOp), xs.extract 4 9 = #[vI64W o.kind, vI64W o.a, vI64W o.b, vI64W o.c, vI64W o.d] → (part 94 xs 4).run Tryz.prog w = .ok (.agg #[vI64W o.kind, vI64W o.a, vI64W o.b, vI64W o.c, vI64W o.d]) w := fun xs o h => by
    simp [part, Tryz.isAgg94, Tryz.sizeOf94, h]
  show (do let x ← Op.equalIn (9999 + 1) _ _ _; pure (Value.bool !x) : Sem Value).run _ _ = _
  rw [Op.equalIn]
  have key : ∀ x y : Int, (Op.equalIn 9999 2 (.int .i64 x) (.int .i64 y)).run Tryz.prog w = .ok (x == y) w := wI w 9998
  have p1 := po #[vI64W a0, vI64W a1, vI64W a2, vI64W a3, vI64W a4.kind, vI64W a4.a, vI64W a4.b, vI64W a4.c, vI64W a4.d] a4 rfl
  have p2 := po #[vI64W b0, vI64W b1, vI64W b2, vI64W b3, vI64W b4.kind, vI64W b4.a, vI64W b4.b, vI64W b4.c, vI64W b4.d] b4 rfl
  simp [h, hs, part_int, key, kop, p1, p2]
  repeat' split
  all_goals simp_all
theorem neqEntry_at (p q : DEntry) : EqAt .neq 301 p.ds q.ds (!(p == q)) := by
  refine ⟨fun x y w => ?_, fun w => neqEntry_run p q w⟩
  have h : Tryz.prog.eqGuardType Tryz.prog.depth 301 = false := by kernel_rfl
  simp [eqGuard, h]
end Go.Proofs.YtmgcnmdbhahhlaaGreat
