/- WG -/
import Derived.Test.YtcmknngafflcnaaGreatJ04
import Derived.Test.YtcmknngafflcnaaGreatJ03
set_option linter.unusedVariables false
set_option linter.unusedSimpArgs false
set_option maxRecDepth 100000
namespace Go.Proofs.YtcmknngafflcnaaGreat
open Go.ChangeShapes Go.WideShapes Go.RowKit
structure sS (op : BinOp) (t : TypeId) (ds es : List AD) (r : Bool) : Prop where
 guard : ∀ (x y : Operand) w, (eqGuard op t x y (.agg (ds.map sW).toArray) (.agg (es.map sW).toArray)).run Tryz.prog w = .ok () w
 run : ∀ w, (binOp op t (.agg (ds.map sW).toArray) (.agg (es.map sW).toArray)).run Tryz.prog w = .ok (.bool r) w
theorem sS.reads {op : BinOp} {t t2 : TypeId} {ds es : List AD} {r : Bool} (he : sS op t ds es r) (hd : ds.all AD.isPv = true) (hd2 : es.all AD.isPv = true) {S : bt} {Z : Nat → Prop} {ρ : Nat → Value} {st : ASt} {a : Act} {w : World} {o : Oper} {x y : Operand}
  (ho : o.op = .binOp op t x y t2) (hx : aEv st x fun v => v = .agg (ds.map .d)) (hy : aEv st y fun v => v = .agg (es.map .d)) (hs : Sim av.W S Z ρ st a w) : ∃ u, bM Z w ρ (vB r) u ∧ (execOp a.eval o).run av.P w = .ok (.value u) w := by
 obtain ⟨v, hv, rfl⟩ := aR hs hx
 obtain ⟨u, hu, rfl⟩ := aR hs hy
 have e1 := q5 hd hv
 have e2 := q5 hd2 hu
 have h1 := he.guard x y w
 have h2 := he.run w
 exact ⟨.bool r, bG rfl, by simp [execOp, ho, e1, e2, av, h1, h2]⟩
theorem AOp.eqs {op : BinOp} {t t2 : TypeId} {ds es : List AD} {r : Bool} (he : sS op t ds es r) {S : bt} {st : ASt} {o : Oper} {x y : Operand} {K : ASt → Prop} (ho : o.op = .binOp op t x y t2) (hx : aEv st x fun v => v = .agg (ds.map .d)) (hy : aEv st y fun v => v = .agg (es.map .d)) (hd : ds.all AD.isPv = true) (hd2 : es.all AD.isPv = true) (hk : co st o.dst (vB r) K) : AOp av S o st K :=
 .reads fun Z ρ a w hs => by
  obtain ⟨u, hu, hr⟩ := he.reads hd hd2 ho hx hy hs
  exact ⟨_, u, hu, hr, hk⟩
theorem jl.eqs {op : BinOp} {t t2 : TypeId} {ds es : List AD} {r : Bool} (he : sS op t ds es r) {st : ASt} {o : Oper} {x y : Operand} {K : AV → Prop} (ho : o.op = .binOp op t x y t2) (hx : aEv st x fun v => v = .agg (ds.map .d)) (hy : aEv st y fun v => v = .agg (es.map .d)) (hd : ds.all AD.isPv = true) (hd2 : es.all AD.isPv = true) (hk : K (vB r)) : jl av o st K :=
 ⟨_, hk, fun S Z ρ a w hs => he.reads hd hd2 ho hx hy hs⟩
theorem wI (w : World) (d : Nat) (a b : Int) : (Op.equalIn (d + 1) 2 (.int .i64 a) (.int .i64 b)).run Tryz.prog w = .ok (a == b) w := EP w d a b
abbrev aG (x : Int) : Value := .int .i64 x
set_option maxHeartbeats 2000000 in
theorem At (p q : DMark) (w : World) : (binOp .neq 231 (.agg #[aG p.client, aG p.seq, aG p.index]) (.agg #[aG q.client, aG q.seq, aG q.index])).run Tryz.prog w = .ok (.bool (!(p == q))) w := by
 obtain ⟨a0, a1, a2⟩ := p
 obtain ⟨b0, b1, b2⟩ := q
 have h := run_underlying (w := w) Tryz.underlying231
 have hs : Tryz.prog.stoodInHeld 231 = false := by kernel_rfl
 show (do let x ← Op.equalIn (9999 + 1) _ _ _; pure (Value.bool !x) : Sem Value).run _ _ = _
 rw [Op.equalIn]
 have key : ∀ x y : Int, (Op.equalIn 9999 2 (.int .i64 x) (.int .i64 y)).run Tryz.prog w = .ok (x == y) w := wI w 9998
 simp [h, hs, fW, key]
 repeat' split
 all_goals simp_all
theorem lj (p q : DMark) : sS .neq 231 p.ds q.ds (!(p == q)) := by
 refine ⟨fun x y w => ?_, fun w => At p q w⟩
 have h : Tryz.prog.eqGuardType Tryz.prog.depth 231 = false := by kernel_rfl
 simp [eqGuard, h]
set_option maxHeartbeats 2000000 in
theorem Co (p q : DAck) (w : World) : (binOp .neq 235 (.agg #[aG p.client, aG p.seq, aG p.index, aG p.last]) (.agg #[aG q.client, aG q.seq, aG q.index, aG q.last])).run Tryz.prog w = .ok (.bool (!(p == q))) w := by
 obtain ⟨a0, a1, a2, a3⟩ := p
 obtain ⟨b0, b1, b2, b3⟩ := q
 have h := run_underlying (w := w) Tryz.underlying235
 have hs : Tryz.prog.stoodInHeld 235 = false := by kernel_rfl
 show (do let x ← Op.equalIn (9999 + 1) _ _ _; pure (Value.bool !x) : Sem Value).run _ _ = _
 rw [Op.equalIn]
 have key : ∀ x y : Int, (Op.equalIn 9999 2 (.int .i64 x) (.int .i64 y)).run Tryz.prog w = .ok (x == y) w := wI w 9998
 simp [h, hs, fW, key]
 repeat' split
 all_goals simp_all
theorem rE (p q : DAck) : sS .neq 235 p.ds q.ds (!(p == q)) := by
 refine ⟨fun x y w => ?_, fun w => Co p q w⟩
 have h : Tryz.prog.eqGuardType Tryz.prog.depth 235 = false := by kernel_rfl
 simp [eqGuard, h]
set_option maxHeartbeats 2000000 in
theorem Au (p q : DPair) (w : World) : (binOp .neq 297 (.agg #[aG p.key, aG p.value]) (.agg #[aG q.key, aG q.value])).run Tryz.prog w = .ok (.bool (!(p == q))) w := by
 obtain ⟨a0, a1⟩ := p
 obtain ⟨b0, b1⟩ := q
 have h := run_underlying (w := w) Tryz.underlying297
 have hs : Tryz.prog.stoodInHeld 297 = false := by kernel_rfl
 show (do let x ← Op.equalIn (9999 + 1) _ _ _; pure (Value.bool !x) : Sem Value).run _ _ = _
 rw [Op.equalIn]
 have key : ∀ x y : Int, (Op.equalIn 9999 2 (.int .i64 x) (.int .i64 y)).run Tryz.prog w = .ok (x == y) w := wI w 9998
 simp [h, hs, fW, key]
 repeat' split
 all_goals simp_all
theorem lk (p q : DPair) : sS .neq 297 p.ds q.ds (!(p == q)) := by
 refine ⟨fun x y w => ?_, fun w => Au p q w⟩
 have h : Tryz.prog.eqGuardType Tryz.prog.depth 297 = false := by kernel_rfl
 simp [eqGuard, h]
set_option maxHeartbeats 2000000 in
theorem Cq (p q : DJob) (w : World) : (binOp .neq 301 (.agg #[aG p.id, aG p.due, aG p.key, aG p.value, aG p.fired]) (.agg #[aG q.id, aG q.due, aG q.key, aG q.value, aG q.fired])).run Tryz.prog w = .ok (.bool (!(p == q))) w := by
 obtain ⟨a0, a1, a2, a3, a4⟩ := p
 obtain ⟨b0, b1, b2, b3, b4⟩ := q
 have h := run_underlying (w := w) Tryz.underlying301
 have hs : Tryz.prog.stoodInHeld 301 = false := by kernel_rfl
 show (do let x ← Op.equalIn (9999 + 1) _ _ _; pure (Value.bool !x) : Sem Value).run _ _ = _
 rw [Op.equalIn]
 have key : ∀ x y : Int, (Op.equalIn 9999 2 (.int .i64 x) (.int .i64 y)).run Tryz.prog w = .ok (x == y) w := wI w 9998
 simp [h, hs, fW, key]
 repeat' split
 all_goals simp_all
theorem oR (p q : DJob) : sS .neq 301 p.ds q.ds (!(p == q)) := by
 refine ⟨fun x y w => ?_, fun w => Cq p q w⟩
 have h : Tryz.prog.eqGuardType Tryz.prog.depth 301 = false := by kernel_rfl
 simp [eqGuard, h]
set_option maxHeartbeats 2000000 in
theorem Cp (p q : DDue) (w : World) : (binOp .neq 330 (.agg #[aG p.id, aG p.due]) (.agg #[aG q.id, aG q.due])).run Tryz.prog w = .ok (.bool (!(p == q))) w := by
 obtain ⟨a0, a1⟩ := p
 obtain ⟨b0, b1⟩ := q
 have h := run_underlying (w := w) Tryz.underlying330
 have hs : Tryz.prog.stoodInHeld 330 = false := by kernel_rfl
 show (do let x ← Op.equalIn (9999 + 1) _ _ _; pure (Value.bool !x) : Sem Value).run _ _ = _
 rw [Op.equalIn]
 have key : ∀ x y : Int, (Op.equalIn 9999 2 (.int .i64 x) (.int .i64 y)).run Tryz.prog w = .ok (x == y) w := wI w 9998
 simp [h, hs, fW, key]
 repeat' split
 all_goals simp_all
theorem w6 (p q : DDue) : sS .neq 330 p.ds q.ds (!(p == q)) := by
 refine ⟨fun x y w => ?_, fun w => Cp p q w⟩
 have h : Tryz.prog.eqGuardType Tryz.prog.depth 330 = false := by kernel_rfl
 simp [eqGuard, h]
set_option maxHeartbeats 2000000 in
theorem yg (p q : DLease) (w : World) : (binOp .eql 83 (.agg #[aG p.holder, aG p.epoch, aG p.til]) (.agg #[aG q.holder, aG q.epoch, aG q.til])).run Tryz.prog w = .ok (.bool (p == q)) w := by
 obtain ⟨a0, a1, a2⟩ := p
 obtain ⟨b0, b1, b2⟩ := q
 have h := run_underlying (w := w) Tryz.underlying83
 have hs : Tryz.prog.stoodInHeld 83 = false := by kernel_rfl
 show (do let x ← Op.equalIn (9999 + 1) _ _ _; pure (Value.bool x) : Sem Value).run _ _ = _
 rw [Op.equalIn]
 have key : ∀ x y : Int, (Op.equalIn 9999 2 (.int .i64 x) (.int .i64 y)).run Tryz.prog w = .ok (x == y) w := wI w 9998
 simp [h, hs, fW, key]
 repeat' split
 all_goals simp_all
theorem iS (p q : DLease) : sS .eql 83 p.ds q.ds (p == q) := by
 refine ⟨fun x y w => ?_, fun w => yg p q w⟩
 have h : Tryz.prog.eqGuardType Tryz.prog.depth 83 = false := by kernel_rfl
 simp [eqGuard, h]
set_option maxHeartbeats 2000000 in
theorem Kj (d : Nat) (p q : DOp) (w : World) : (Op.equalIn (d + 2) 93 (.agg #[aG p.kind, aG p.a, aG p.b, aG p.c, aG p.d]) (.agg #[aG q.kind, aG q.a, aG q.b, aG q.c, aG q.d])).run Tryz.prog w = .ok (p == q) w := by
 obtain ⟨a0, a1, a2, a3, a4⟩ := p
 obtain ⟨b0, b1, b2, b3, b4⟩ := q
 have h := run_underlying (w := w) Tryz.underlying93
 have hs : Tryz.prog.stoodInHeld 93 = false := by kernel_rfl
 rw [Op.equalIn]
 have key : ∀ x y : Int, (Op.equalIn (d + 1) 2 (.int .i64 x) (.int .i64 y)).run Tryz.prog w = .ok (x == y) w := wI w d
 simp [h, hs, fW, key]
 repeat' split
 all_goals simp_all
set_option maxHeartbeats 2000000 in
theorem DL (p q : DOp) (w : World) : (binOp .eql 93 (.agg #[aG p.kind, aG p.a, aG p.b, aG p.c, aG p.d]) (.agg #[aG q.kind, aG q.a, aG q.b, aG q.c, aG q.d])).run Tryz.prog w = .ok (.bool (p == q)) w := by
 obtain ⟨a0, a1, a2, a3, a4⟩ := p
 obtain ⟨b0, b1, b2, b3, b4⟩ := q
 have h := run_underlying (w := w) Tryz.underlying93
 have hs : Tryz.prog.stoodInHeld 93 = false := by kernel_rfl
 show (do let x ← Op.equalIn (9999 + 1) _ _ _; pure (Value.bool x) : Sem Value).run _ _ = _
 rw [Op.equalIn]
 have key : ∀ x y : Int, (Op.equalIn 9999 2 (.int .i64 x) (.int .i64 y)).run Tryz.prog w = .ok (x == y) w := wI w 9998
 simp [h, hs, fW, key]
 repeat' split
 all_goals simp_all
theorem jL (p q : DOp) : sS .eql 93 p.ds q.ds (p == q) := by
 refine ⟨fun x y w => ?_, fun w => DL p q w⟩
 have h : Tryz.prog.eqGuardType Tryz.prog.depth 93 = false := by kernel_rfl
 simp [eqGuard, h]
set_option maxHeartbeats 2000000 in
theorem yI (p q : DEntry) (w : World) : (binOp .neq 291 (.agg #[aG p.index, aG p.time, aG p.client, aG p.seq, aG p.op.kind, aG p.op.a, aG p.op.b, aG p.op.c, aG p.op.d]) (.agg #[aG q.index, aG q.time, aG q.client, aG q.seq, aG q.op.kind, aG q.op.a, aG q.op.b, aG q.op.c, aG q.op.d])).run Tryz.prog w = .ok (.bool (!(p == q))) w := by
 obtain ⟨a0, a1, a2, a3, a4⟩ := p
 obtain ⟨b0, b1, b2, b3, b4⟩ := q
 have h := run_underlying (w := w) Tryz.underlying291
 have hs : Tryz.prog.stoodInHeld 291 = false := by kernel_rfl
 have kop : ∀ o o' : DOp, (Op.equalIn 9999 93 (.agg #[aG o.kind, aG o.a, aG o.b, aG o.c, aG o.d]) (.agg #[aG o'.kind, aG o'.a, aG o'.b, aG o'.c, aG o'.d])).run Tryz.prog w = .ok (o == o') w := fun o o' => Kj 9997 o o' w
 have po : ∀ (xs : Array Value) (o : DOp), xs.extract 4 9 = #[aG o.kind, aG o.a, aG o.b, aG o.c, aG o.d] → (part 93 xs 4).run Tryz.prog w = .ok (.agg #[aG o.kind, aG o.a, aG o.b, aG o.c, aG o.d]) w := fun xs o h => by
  simp [part, Tryz.isAgg93, Tryz.sizeOf93, h]
 show (do let x ← Op.equalIn (9999 + 1) _ _ _; pure (Value.bool !x) : Sem Value).run _ _ = _
 rw [Op.equalIn]
 have key : ∀ x y : Int, (Op.equalIn 9999 2 (.int .i64 x) (.int .i64 y)).run Tryz.prog w = .ok (x == y) w := wI w 9998
 have p1 := po #[aG a0, aG a1, aG a2, aG a3, aG a4.kind, aG a4.a, aG a4.b, aG a4.c, aG a4.d] a4 rfl
 have p2 := po #[aG b0, aG b1, aG b2, aG b3, aG b4.kind, aG b4.a, aG b4.b, aG b4.c, aG b4.d] b4 rfl
 simp [h, hs, fW, key, kop, p1, p2]
 repeat' split
 all_goals simp_all
theorem su (p q : DEntry) : sS .neq 291 p.ds q.ds (!(p == q)) := by
 refine ⟨fun x y w => ?_, fun w => yI p q w⟩
 have h : Tryz.prog.eqGuardType Tryz.prog.depth 291 = false := by kernel_rfl
 simp [eqGuard, h]
end Go.Proofs.YtcmknngafflcnaaGreat
