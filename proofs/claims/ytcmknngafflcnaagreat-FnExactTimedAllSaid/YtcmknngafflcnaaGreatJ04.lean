/- J04 -/
import Derived.Test.YtcmknngafflcnaaGreatAwx
import Derived.Test.YtcmknngafflcnaaGreatAvEnv
import Derived.Test.YtcmknngafflcnaaGreatJ02
import Derived.Test.YtcmknngafflcnaaGreatJ03
set_option linter.unusedVariables false
set_option linter.unusedSimpArgs false
set_option maxRecDepth 100000
namespace Go.Proofs.YtcmknngafflcnaaGreat
open Go.ChangeShapes Go.WideShapes Go.RowKit
def Cs (o : DOp) : Bool :=
 if o.kind = 1 then aj o.a 0 9 && aj o.b 0 999 && (o.c == 0) && (o.d == 0)
 else if o.kind = 2 then aj o.a 0 9 && (o.b == 0) && (o.c == 0) && (o.d == 0)
 else if o.kind = 3 then aj o.a 1 20 && aj o.b 0 1000000 && aj o.c 0 9 && aj o.d 0 999
 else if o.kind = 4 then aj o.a 1 20 && aj o.b 0 1000 && (o.c == 0) && (o.d == 0)
 else if o.kind = 5 then aj o.a 1 1000 && (o.b == 0) && (o.c == 0) && (o.d == 0)
 else false
def bW (e : DEntry) : Bool := aj e.index 1 2000 && aj e.time 0 1000000 && aj e.client 2 5 && aj e.seq 1 2000 && Cs e.op
def DEntry.ds (e : DEntry) : List AD := [dI e.index, dI e.time, dI e.client, dI e.seq, dI e.op.kind, dI e.op.a, dI e.op.b, dI e.op.c, dI e.op.d]
abbrev DOp.ds (o : DOp) : List AD := [dI o.kind, dI o.a, dI o.b, dI o.c, dI o.d]
def DOp.v (o : DOp) : Value := .agg #[.int .i64 o.kind, .int .i64 o.a, .int .i64 o.b, .int .i64 o.c, .int .i64 o.d]
def eF (x : DWant) : Bool := if x.kind == 4 then (x.op == ⟨0, 0, 0, 0, 0⟩ && aj x.key 0 9) else if x.kind == 1 || x.kind == 2 || x.kind == 3 then (Cs x.op && x.op.kind == x.kind && x.key == 0) else false
def DWant.ds (e : DWant) : List AD := [dI e.kind, dI e.op.kind, dI e.op.a, dI e.op.b, dI e.op.c, dI e.op.d, dI e.key]
theorem EP (w : World) (d : Nat) (a b : Int) : (Op.equalIn (d + 1) 2 (.int .i64 a) (.int .i64 b)).run Tryz.prog w = .ok (a == b) w := by
 have hi := run_underlying (w := w) Tryz.underlying2
 simp [Op.equalIn, hi]
theorem fW (w : World) (xs : Array Value) (i : Nat) (v : Value) (h : xs[i]? = some v) : (part 2 xs i).run Tryz.prog w = .ok v w := by
 simp [part, Tryz.isAgg2, Tryz.sizeOf2, h]
theorem cu {α β : Type} (f : α → β) {l : List α} {k : Nat} (hk : k < l.length) : (l.take (k + 1)).map f = (l.take k).map f ++ [f l[k]] := by
 rw [List.take_succ_eq_append_getElem hk, List.map_append]; rfl
theorem aC (x lo hi : Int) : ak av 282 [pI x, pI lo, pI hi] (rB (aj x lo hi)) := by
 refine ac ah Tryz.func282 rfl Tryz.call282 Tryz.ntmps282 (congrArg Array.toList Tryz.results282) fun S => ?_; conv => whnf
 repeat' (first | (refine aw0 ?_) | (refine awx ?_; conv => whnf) | fail | (exact rr) | (refine And.intro rfl ?_; conv => whnf) | (refine AB.mk (fun h => ?_) (fun h => ?_) <;> (conv => whnf)))
 all_goals first
  | (simp_all [aj]; done)
  | (simp_all [aj]; intros; omega)
theorem aL (x lo hi : Int) : ak av 208 [pI x, pI lo, pI hi] (rB (aj x lo hi)) := by
 refine ac ah Tryz.func208 rfl Tryz.call208 Tryz.ntmps208 (congrArg Array.toList Tryz.results208) fun S => ?_; conv => whnf
 repeat' (first | (refine aw0 ?_) | (refine awx ?_; conv => whnf) | fail | (exact rr) | (refine And.intro rfl ?_; conv => whnf) | (refine AB.mk (fun h => ?_) (fun h => ?_) <;> (conv => whnf)))
 all_goals first
  | (simp_all [aj]; done)
  | (simp_all [aj]; intros; omega)
theorem wW (x : Int) : ak av 284 [pI x] (rB (aj x 0 5)) := by
 refine ac ah Tryz.func284 rfl Tryz.call284 Tryz.ntmps284 (congrArg Array.toList Tryz.results284) fun S => ?_; conv => whnf
 repeat' (first | (refine aw0 ?_) | (refine awx ?_; conv => whnf) | fail | (refine aa.pure (aC _ _ _) rfl ?_; conv => whnf) | (refine ae.mk ⟨_, _, aC _ _ _, .inl rfl, ?_⟩; conv => whnf) | (exact rr) | (refine And.intro rfl ?_; conv => whnf) | (refine AB.mk (fun h => ?_) (fun h => ?_) <;> (conv => whnf)))
theorem gT (x : Int) : ak av 347 [pI x] (rB (aj x 0 9)) := by
 refine ac ah Tryz.func347 rfl Tryz.call347 Tryz.ntmps347 (congrArg Array.toList Tryz.results347) fun S => ?_; conv => whnf
 repeat' (first | (refine aw0 ?_) | (refine awx ?_; conv => whnf) | fail | (refine aa.pure (aC _ _ _) rfl ?_; conv => whnf) | (refine ae.mk ⟨_, _, aC _ _ _, .inl rfl, ?_⟩; conv => whnf) | (exact rr) | (refine And.intro rfl ?_; conv => whnf) | (refine AB.mk (fun h => ?_) (fun h => ?_) <;> (conv => whnf)))
theorem eD (x : Int) : ak av 348 [pI x] (rB (aj x 0 999)) := by
 refine ac ah Tryz.func348 rfl Tryz.call348 Tryz.ntmps348 (congrArg Array.toList Tryz.results348) fun S => ?_; conv => whnf
 repeat' (first | (refine aw0 ?_) | (refine awx ?_; conv => whnf) | fail | (refine aa.pure (aC _ _ _) rfl ?_; conv => whnf) | (refine ae.mk ⟨_, _, aC _ _ _, .inl rfl, ?_⟩; conv => whnf) | (exact rr) | (refine And.intro rfl ?_; conv => whnf) | (refine AB.mk (fun h => ?_) (fun h => ?_) <;> (conv => whnf)))
theorem oM (x : Int) : ak av 350 [pI x] (rB (aj x 1 20)) := by
 refine ac ah Tryz.func350 rfl Tryz.call350 Tryz.ntmps350 (congrArg Array.toList Tryz.results350) fun S => ?_; conv => whnf
 repeat' (first | (refine aw0 ?_) | (refine awx ?_; conv => whnf) | fail | (refine aa.pure (aC _ _ _) rfl ?_; conv => whnf) | (refine ae.mk ⟨_, _, aC _ _ _, .inl rfl, ?_⟩; conv => whnf) | (exact rr) | (refine And.intro rfl ?_; conv => whnf) | (refine AB.mk (fun h => ?_) (fun h => ?_) <;> (conv => whnf)))
theorem qS (x : Int) : ak av 353 [pI x] (rB (aj x 1 2000)) := by
 refine ac ah Tryz.func353 rfl Tryz.call353 Tryz.ntmps353 (congrArg Array.toList Tryz.results353) fun S => ?_; conv => whnf
 repeat' (first | (refine aw0 ?_) | (refine awx ?_; conv => whnf) | fail | (refine aa.pure (aC _ _ _) rfl ?_; conv => whnf) | (refine ae.mk ⟨_, _, aC _ _ _, .inl rfl, ?_⟩; conv => whnf) | (exact rr) | (refine And.intro rfl ?_; conv => whnf) | (refine AB.mk (fun h => ?_) (fun h => ?_) <;> (conv => whnf)))
theorem kZ (x : Int) : ak av 354 [pI x] (rB (aj x 1 2000)) := by
 refine ac ah Tryz.func354 rfl Tryz.call354 Tryz.ntmps354 (congrArg Array.toList Tryz.results354) fun S => ?_; conv => whnf
 repeat' (first | (refine aw0 ?_) | (refine awx ?_; conv => whnf) | fail | (refine aa.pure (aC _ _ _) rfl ?_; conv => whnf) | (refine ae.mk ⟨_, _, aC _ _ _, .inl rfl, ?_⟩; conv => whnf) | (exact rr) | (refine And.intro rfl ?_; conv => whnf) | (refine AB.mk (fun h => ?_) (fun h => ?_) <;> (conv => whnf)))
theorem bO (x : Int) : ak av 237 [pI x] (rB (aj x 0 1000000)) := by
 refine ac ah Tryz.func237 rfl Tryz.call237 Tryz.ntmps237 (congrArg Array.toList Tryz.results237) fun S => ?_; conv => whnf
 repeat' (first | (refine aw0 ?_) | (refine awx ?_; conv => whnf) | fail | (refine aa.pure (aC _ _ _) rfl ?_; conv => whnf) | (refine ae.mk ⟨_, _, aC _ _ _, .inl rfl, ?_⟩; conv => whnf) | (exact rr) | (refine And.intro rfl ?_; conv => whnf) | (refine AB.mk (fun h => ?_) (fun h => ?_) <;> (conv => whnf)))
theorem kW (x : Int) : ak av 352 [pI x] (rB (aj x 2 5)) := by
 refine ac ah Tryz.func352 rfl Tryz.call352 Tryz.ntmps352 (congrArg Array.toList Tryz.results352) fun S => ?_; conv => whnf
 repeat' (first | (refine aw0 ?_) | (refine awx ?_; conv => whnf) | fail | (refine aa.pure (aC _ _ _) rfl ?_; conv => whnf) | (refine ae.mk ⟨_, _, aC _ _ _, .inl rfl, ?_⟩; conv => whnf) | (exact rr) | (refine And.intro rfl ?_; conv => whnf) | (refine AB.mk (fun h => ?_) (fun h => ?_) <;> (conv => whnf)))
theorem o7 (x : Int) : ak av 150 [pI x] (rB (aj x 0 5)) := by
 refine ac ah Tryz.func150 rfl Tryz.call150 Tryz.ntmps150 (congrArg Array.toList Tryz.results150) fun S => ?_; conv => whnf
 repeat' (first | (refine aw0 ?_) | (refine awx ?_; conv => whnf) | fail | (refine aa.pure (aL _ _ _) rfl ?_; conv => whnf) | (refine ae.mk ⟨_, _, aL _ _ _, .inl rfl, ?_⟩; conv => whnf) | (exact rr) | (refine And.intro rfl ?_; conv => whnf) | (refine AB.mk (fun h => ?_) (fun h => ?_) <;> (conv => whnf)))
theorem rf (x : Int) : ak av 228 [pI x] (rB (aj x 0 9)) := by
 refine ac ah Tryz.func228 rfl Tryz.call228 Tryz.ntmps228 (congrArg Array.toList Tryz.results228) fun S => ?_; conv => whnf
 repeat' (first | (refine aw0 ?_) | (refine awx ?_; conv => whnf) | fail | (refine aa.pure (aL _ _ _) rfl ?_; conv => whnf) | (refine ae.mk ⟨_, _, aL _ _ _, .inl rfl, ?_⟩; conv => whnf) | (exact rr) | (refine And.intro rfl ?_; conv => whnf) | (refine AB.mk (fun h => ?_) (fun h => ?_) <;> (conv => whnf)))
theorem lr (x : Int) : ak av 230 [pI x] (rB (aj x 0 999)) := by
 refine ac ah Tryz.func230 rfl Tryz.call230 Tryz.ntmps230 (congrArg Array.toList Tryz.results230) fun S => ?_; conv => whnf
 repeat' (first | (refine aw0 ?_) | (refine awx ?_; conv => whnf) | fail | (refine aa.pure (aL _ _ _) rfl ?_; conv => whnf) | (refine ae.mk ⟨_, _, aL _ _ _, .inl rfl, ?_⟩; conv => whnf) | (exact rr) | (refine And.intro rfl ?_; conv => whnf) | (refine AB.mk (fun h => ?_) (fun h => ?_) <;> (conv => whnf)))
theorem td (x : Int) : ak av 280 [pI x] (rB (aj x 1 20)) := by
 refine ac ah Tryz.func280 rfl Tryz.call280 Tryz.ntmps280 (congrArg Array.toList Tryz.results280) fun S => ?_; conv => whnf
 repeat' (first | (refine aw0 ?_) | (refine awx ?_; conv => whnf) | fail | (refine aa.pure (aL _ _ _) rfl ?_; conv => whnf) | (refine ae.mk ⟨_, _, aL _ _ _, .inl rfl, ?_⟩; conv => whnf) | (exact rr) | (refine And.intro rfl ?_; conv => whnf) | (refine AB.mk (fun h => ?_) (fun h => ?_) <;> (conv => whnf)))
theorem ke (x : Int) : ak av 312 [pI x] (rB (aj x 1 2000)) := by
 refine ac ah Tryz.func312 rfl Tryz.call312 Tryz.ntmps312 (congrArg Array.toList Tryz.results312) fun S => ?_; conv => whnf
 repeat' (first | (refine aw0 ?_) | (refine awx ?_; conv => whnf) | fail | (refine aa.pure (aL _ _ _) rfl ?_; conv => whnf) | (refine ae.mk ⟨_, _, aL _ _ _, .inl rfl, ?_⟩; conv => whnf) | (exact rr) | (refine And.intro rfl ?_; conv => whnf) | (refine AB.mk (fun h => ?_) (fun h => ?_) <;> (conv => whnf)))
theorem lq (x : Int) : ak av 313 [pI x] (rB (aj x 1 2000)) := by
 refine ac ah Tryz.func313 rfl Tryz.call313 Tryz.ntmps313 (congrArg Array.toList Tryz.results313) fun S => ?_; conv => whnf
 repeat' (first | (refine aw0 ?_) | (refine awx ?_; conv => whnf) | fail | (refine aa.pure (aL _ _ _) rfl ?_; conv => whnf) | (refine ae.mk ⟨_, _, aL _ _ _, .inl rfl, ?_⟩; conv => whnf) | (exact rr) | (refine And.intro rfl ?_; conv => whnf) | (refine AB.mk (fun h => ?_) (fun h => ?_) <;> (conv => whnf)))
theorem ci (x : Int) : ak av 140 [pI x] (rB (aj x 0 1000000)) := by
 refine ac ah Tryz.func140 rfl Tryz.call140 Tryz.ntmps140 (congrArg Array.toList Tryz.results140) fun S => ?_; conv => whnf
 repeat' (first | (refine aw0 ?_) | (refine awx ?_; conv => whnf) | fail | (refine aa.pure (aL _ _ _) rfl ?_; conv => whnf) | (refine ae.mk ⟨_, _, aL _ _ _, .inl rfl, ?_⟩; conv => whnf) | (exact rr) | (refine And.intro rfl ?_; conv => whnf) | (refine AB.mk (fun h => ?_) (fun h => ?_) <;> (conv => whnf)))
theorem gB (x : Int) : ak av 311 [pI x] (rB (aj x 2 5)) := by
 refine ac ah Tryz.func311 rfl Tryz.call311 Tryz.ntmps311 (congrArg Array.toList Tryz.results311) fun S => ?_; conv => whnf
 repeat' (first | (refine aw0 ?_) | (refine awx ?_; conv => whnf) | fail | (refine aa.pure (aL _ _ _) rfl ?_; conv => whnf) | (refine ae.mk ⟨_, _, aL _ _ _, .inl rfl, ?_⟩; conv => whnf) | (exact rr) | (refine And.intro rfl ?_; conv => whnf) | (refine AB.mk (fun h => ?_) (fun h => ?_) <;> (conv => whnf)))
theorem vC (x : Int) : ak av 272 [pI x] (rB (aj x 0 1000000)) := by
 refine ac ah Tryz.func272 rfl Tryz.call272 Tryz.ntmps272 (congrArg Array.toList Tryz.results272) fun S => ?_; conv => whnf
 repeat' (first | (refine aw0 ?_) | (refine awx ?_; conv => whnf) | fail | (refine aa.pure (aL _ _ _) rfl ?_; conv => whnf) | (refine ae.mk ⟨_, _, aL _ _ _, .inl rfl, ?_⟩; conv => whnf) | (exact rr) | (refine And.intro rfl ?_; conv => whnf) | (refine AB.mk (fun h => ?_) (fun h => ?_) <;> (conv => whnf)))
theorem oL (o : DOp) : ak av 324 [.agg o.ds] (rB (Cs o)) := by
 refine ac ah Tryz.func324 rfl Tryz.call324 Tryz.ntmps324 (congrArg Array.toList Tryz.results324) fun S => ?_; conv => whnf
 repeat' (first | (refine aw0 ?_) | (refine awx ?_; conv => whnf) | fail | (refine aa.pure (gT _) rfl ?_; conv => whnf) | (refine ae.mk ⟨_, _, gT _, .inl rfl, ?_⟩; conv => whnf) | (refine aa.pure (eD _) rfl ?_; conv => whnf) | (refine ae.mk ⟨_, _, eD _, .inl rfl, ?_⟩; conv => whnf) | (refine aa.pure (oM _) rfl ?_; conv => whnf) | (refine ae.mk ⟨_, _, oM _, .inl rfl, ?_⟩; conv => whnf) | (refine aa.pure (bO _) rfl ?_; conv => whnf) | (refine ae.mk ⟨_, _, bO _, .inl rfl, ?_⟩; conv => whnf) | (refine aa.pure (aC _ _ _) rfl ?_; conv => whnf) | (refine ae.mk ⟨_, _, aC _ _ _, .inl rfl, ?_⟩; conv => whnf) | (exact rr) | (refine And.intro rfl ?_; conv => whnf) | (refine AB.mk (fun h => ?_) (fun h => ?_) <;> (conv => whnf)))
 all_goals simp_all [Cs]
theorem oZ (o : DOp) : ak av 227 [.agg o.ds] (rB (Cs o)) := by
 refine ac ah Tryz.func227 rfl Tryz.call227 Tryz.ntmps227 (congrArg Array.toList Tryz.results227) fun S => ?_; conv => whnf
 repeat' (first | (refine aw0 ?_) | (refine awx ?_; conv => whnf) | fail | (refine aa.pure (rf _) rfl ?_; conv => whnf) | (refine ae.mk ⟨_, _, rf _, .inl rfl, ?_⟩; conv => whnf) | (refine aa.pure (lr _) rfl ?_; conv => whnf) | (refine ae.mk ⟨_, _, lr _, .inl rfl, ?_⟩; conv => whnf) | (refine aa.pure (td _) rfl ?_; conv => whnf) | (refine ae.mk ⟨_, _, td _, .inl rfl, ?_⟩; conv => whnf) | (refine aa.pure (ci _) rfl ?_; conv => whnf) | (refine ae.mk ⟨_, _, ci _, .inl rfl, ?_⟩; conv => whnf) | (refine aa.pure (aL _ _ _) rfl ?_; conv => whnf) | (refine ae.mk ⟨_, _, aL _ _ _, .inl rfl, ?_⟩; conv => whnf) | (exact rr) | (refine And.intro rfl ?_; conv => whnf) | (refine AB.mk (fun h => ?_) (fun h => ?_) <;> (conv => whnf)))
 all_goals simp_all [Cs]
theorem gt (e : DEntry) : ak av 329 [.agg e.ds] (rB (bW e)) := by
 refine ac ah Tryz.func329 rfl Tryz.call329 Tryz.ntmps329 (congrArg Array.toList Tryz.results329) fun S => ?_; conv => whnf
 repeat' (first | (refine aw0 ?_) | (refine awx ?_; conv => whnf) | (refine aa.pure (kZ _) rfl ?_; conv => whnf) | (refine ae.mk ⟨_, _, kZ _, .inl rfl, ?_⟩; conv => whnf) | (refine aa.pure (bO _) rfl ?_; conv => whnf) | (refine ae.mk ⟨_, _, bO _, .inl rfl, ?_⟩; conv => whnf) | (refine aa.pure (kW _) rfl ?_; conv => whnf) | (refine ae.mk ⟨_, _, kW _, .inl rfl, ?_⟩; conv => whnf) | (refine aa.pure (qS _) rfl ?_; conv => whnf) | (refine ae.mk ⟨_, _, qS _, .inl rfl, ?_⟩; conv => whnf) | (refine aa.pure (oL e.op) rfl ?_; conv => whnf) | (refine ae.mk ⟨_, _, oL e.op, .inl rfl, ?_⟩; conv => whnf) | (exact rr) | (refine And.intro rfl ?_; conv => whnf) | (refine AB.mk (fun h => ?_) (fun h => ?_) <;> (conv => whnf)))
 all_goals simp [bW, *]
theorem gD (e : DEntry) : ak av 314 [.agg e.ds] (rB (bW e)) := by
 refine ac ah Tryz.func314 rfl Tryz.call314 Tryz.ntmps314 (congrArg Array.toList Tryz.results314) fun S => ?_; conv => whnf
 repeat' (first | (refine aw0 ?_) | (refine awx ?_; conv => whnf) | (refine aa.pure (lq _) rfl ?_; conv => whnf) | (refine ae.mk ⟨_, _, lq _, .inl rfl, ?_⟩; conv => whnf) | (refine aa.pure (ci _) rfl ?_; conv => whnf) | (refine ae.mk ⟨_, _, ci _, .inl rfl, ?_⟩; conv => whnf) | (refine aa.pure (gB _) rfl ?_; conv => whnf) | (refine ae.mk ⟨_, _, gB _, .inl rfl, ?_⟩; conv => whnf) | (refine aa.pure (ke _) rfl ?_; conv => whnf) | (refine ae.mk ⟨_, _, ke _, .inl rfl, ?_⟩; conv => whnf) | (refine aa.pure (oZ e.op) rfl ?_; conv => whnf) | (refine ae.mk ⟨_, _, oZ e.op, .inl rfl, ?_⟩; conv => whnf) | (exact rr) | (refine And.intro rfl ?_; conv => whnf) | (refine AB.mk (fun h => ?_) (fun h => ?_) <;> (conv => whnf)))
 all_goals simp [bW, *]
end Go.Proofs.YtcmknngafflcnaaGreat
namespace Go.Proofs.YtcmknngafflcnaaGreat
open Go.ChangeShapes Go.WideShapes Go.RowKit
abbrev eB (b : Bool) : List AD := [dB b]
abbrev cG (l : List Int) : List AD := [dIs l]
structure DWrite where
 at_ : Int
 row : (List Int)
 deriving DecidableEq
def Rep.DWrite : Rep DWrite := Rep.via (fun x => (x.at_, x.row)) (Rep.pair (Rep.int .i64) (Rep.sl (Rep.int .i64)))
def DWrite.ds (x : DWrite) : List AD := [dI x.at_, .sl (x.row.map eI)]
theorem DWrite.enc : Enc Rep.DWrite DWrite.ds := Enc.via (f := fun x : DWrite => (x.at_, x.row)) (Enc.pair Enc.int (Enc.sl Enc.int))
theorem DWrite.encF : az Rep.DWrite DWrite.ds := az.via (f := fun x : DWrite => (x.at_, x.row)) (az.pair az.int (az.sl az.int))
def DWrite.small (n : Nat) (x : DWrite) : Prop := x.row.length ≤ n
structure DDisk where
 kept : (List (List Int))
 wait : (List DWrite)
 deriving DecidableEq
def Rep.DDisk : Rep DDisk := Rep.via (fun x => (x.kept, x.wait)) (Rep.pair (Rep.sl (Rep.sl (Rep.int .i64))) (Rep.sl Rep.DWrite))
def DDisk.ds (x : DDisk) : List AD := [.sl (x.kept.map cG), .sl (x.wait.map DWrite.ds)]
theorem DDisk.enc : Enc Rep.DDisk DDisk.ds := Enc.via (f := fun x : DDisk => (x.kept, x.wait)) (Enc.pair (Enc.sl (Enc.sl Enc.int)) (Enc.sl DWrite.enc))
theorem DDisk.encF : az Rep.DDisk DDisk.ds := az.via (f := fun x : DDisk => (x.kept, x.wait)) (az.pair (az.sl (az.sl az.int)) (az.sl DWrite.encF))
def DDisk.small (n : Nat) (x : DDisk) : Prop := x.kept.length ≤ n ∧ (∀ y ∈ x.kept, y.length ≤ n) ∧ x.wait.length ≤ n ∧ (∀ y ∈ x.wait, DWrite.small n y)
structure DTwo where
 a : DDisk
 b : DDisk
 deriving DecidableEq
def Rep.DTwo : Rep DTwo := Rep.via (fun x => (x.a, x.b)) (Rep.pair Rep.DDisk Rep.DDisk)
def DTwo.ds (x : DTwo) : List AD := [.sl (x.a.kept.map cG), .sl (x.a.wait.map DWrite.ds), .sl (x.b.kept.map cG), .sl (x.b.wait.map DWrite.ds)]
theorem DTwo.enc : Enc Rep.DTwo DTwo.ds := Enc.via (f := fun x : DTwo => (x.a, x.b)) (Enc.pair DDisk.enc DDisk.enc)
theorem DTwo.encF : az Rep.DTwo DTwo.ds := az.via (f := fun x : DTwo => (x.a, x.b)) (az.pair DDisk.encF DDisk.encF)
def DTwo.small (n : Nat) (x : DTwo) : Prop := DDisk.small n x.a ∧ DDisk.small n x.b
structure DMark where
 client : Int
 seq : Int
 index : Int
 deriving DecidableEq
def Rep.DMark : Rep DMark := Rep.via (fun x => (x.client, x.seq, x.index)) (Rep.pair (Rep.int .i64) (Rep.pair (Rep.int .i64) (Rep.int .i64)))
def DMark.ds (x : DMark) : List AD := [dI x.client, dI x.seq, dI x.index]
theorem DMark.enc : Enc Rep.DMark DMark.ds := Enc.via (f := fun x : DMark => (x.client, x.seq, x.index)) (Enc.pair Enc.int (Enc.pair Enc.int Enc.int))
theorem DMark.encF : az Rep.DMark DMark.ds := az.via (f := fun x : DMark => (x.client, x.seq, x.index)) (az.pair az.int (az.pair az.int az.int))
structure DHead where
 num : Int
 base : Int
 time : Int
 seen : (List DMark)
 deriving DecidableEq
def Rep.DHead : Rep DHead := Rep.via (fun x => (x.num, x.base, x.time, x.seen)) (Rep.pair (Rep.int .i64) (Rep.pair (Rep.int .i64) (Rep.pair (Rep.int .i64) (Rep.sl Rep.DMark))))
def DHead.ds (x : DHead) : List AD := [dI x.num, dI x.base, dI x.time, .sl (x.seen.map DMark.ds)]
theorem DHead.enc : Enc Rep.DHead DHead.ds := Enc.via (f := fun x : DHead => (x.num, x.base, x.time, x.seen)) (Enc.pair Enc.int (Enc.pair Enc.int (Enc.pair Enc.int (Enc.sl DMark.enc))))
theorem DHead.encF : az Rep.DHead DHead.ds := az.via (f := fun x : DHead => (x.num, x.base, x.time, x.seen)) (az.pair az.int (az.pair az.int (az.pair az.int (az.sl DMark.encF))))
def DHead.small (n : Nat) (x : DHead) : Prop := x.seen.length ≤ n
theorem DOp.enc : Enc Rep.DOp DOp.ds := Enc.via (f := fun x : DOp => (x.kind, x.a, x.b, x.c, x.d)) (Enc.pair Enc.int (Enc.pair Enc.int (Enc.pair Enc.int (Enc.pair Enc.int Enc.int))))
theorem DOp.encF : az Rep.DOp DOp.ds := az.via (f := fun x : DOp => (x.kind, x.a, x.b, x.c, x.d)) (az.pair az.int (az.pair az.int (az.pair az.int (az.pair az.int az.int))))
theorem DEntry.enc : Enc Rep.DEntry DEntry.ds := Enc.via (f := fun x : DEntry => (x.index, x.time, x.client, x.seq, x.op)) (Enc.pair Enc.int (Enc.pair Enc.int (Enc.pair Enc.int (Enc.pair Enc.int DOp.enc))))
theorem DEntry.encF : az Rep.DEntry DEntry.ds := az.via (f := fun x : DEntry => (x.index, x.time, x.client, x.seq, x.op)) (az.pair az.int (az.pair az.int (az.pair az.int (az.pair az.int DOp.encF))))
structure DBook where
 base : Int
 time : Int
 entries : (List DEntry)
 deriving DecidableEq
def Rep.DBook : Rep DBook := Rep.via (fun x => (x.base, x.time, x.entries)) (Rep.pair (Rep.int .i64) (Rep.pair (Rep.int .i64) (Rep.sl Rep.DEntry)))
def DBook.ds (x : DBook) : List AD := [dI x.base, dI x.time, .sl (x.entries.map DEntry.ds)]
theorem DBook.enc : Enc Rep.DBook DBook.ds := Enc.via (f := fun x : DBook => (x.base, x.time, x.entries)) (Enc.pair Enc.int (Enc.pair Enc.int (Enc.sl DEntry.enc)))
theorem DBook.encF : az Rep.DBook DBook.ds := az.via (f := fun x : DBook => (x.base, x.time, x.entries)) (az.pair az.int (az.pair az.int (az.sl DEntry.encF)))
def DBook.small (n : Nat) (x : DBook) : Prop := x.entries.length ≤ n
structure DAck where
 client : Int
 seq : Int
 index : Int
 last : Int
 deriving DecidableEq
def Rep.DAck : Rep DAck := Rep.via (fun x => (x.client, x.seq, x.index, x.last)) (Rep.pair (Rep.int .i64) (Rep.pair (Rep.int .i64) (Rep.pair (Rep.int .i64) (Rep.int .i64))))
def DAck.ds (x : DAck) : List AD := [dI x.client, dI x.seq, dI x.index, dI x.last]
theorem DAck.enc : Enc Rep.DAck DAck.ds := Enc.via (f := fun x : DAck => (x.client, x.seq, x.index, x.last)) (Enc.pair Enc.int (Enc.pair Enc.int (Enc.pair Enc.int Enc.int)))
theorem DAck.encF : az Rep.DAck DAck.ds := az.via (f := fun x : DAck => (x.client, x.seq, x.index, x.last)) (az.pair az.int (az.pair az.int (az.pair az.int az.int)))
structure DLogNode where
 two : DTwo
 head : DHead
 nxt : DHead
 more : Bool
 book : DBook
 seen : (List DMark)
 durable : Int
 owe : (List DAck)
 deriving DecidableEq
def Rep.DLogNode : Rep DLogNode := Rep.via (fun x => (x.two, x.head, x.nxt, x.more, x.book, x.seen, x.durable, x.owe)) (Rep.pair Rep.DTwo (Rep.pair Rep.DHead (Rep.pair Rep.DHead (Rep.pair Rep.bool (Rep.pair Rep.DBook (Rep.pair (Rep.sl Rep.DMark) (Rep.pair (Rep.int .i64) (Rep.sl Rep.DAck))))))))
def DLogNode.ds (x : DLogNode) : List AD := [.sl (x.two.a.kept.map cG), .sl (x.two.a.wait.map DWrite.ds), .sl (x.two.b.kept.map cG), .sl (x.two.b.wait.map DWrite.ds), dI x.head.num, dI x.head.base, dI x.head.time, .sl (x.head.seen.map DMark.ds), dI x.nxt.num, dI x.nxt.base, dI x.nxt.time, .sl (x.nxt.seen.map DMark.ds), dB x.more, dI x.book.base, dI x.book.time, .sl (x.book.entries.map DEntry.ds), .sl (x.seen.map DMark.ds), dI x.durable, .sl (x.owe.map DAck.ds)]
theorem DLogNode.enc : Enc Rep.DLogNode DLogNode.ds := Enc.via (f := fun x : DLogNode => (x.two, x.head, x.nxt, x.more, x.book, x.seen, x.durable, x.owe)) (Enc.pair DTwo.enc (Enc.pair DHead.enc (Enc.pair DHead.enc (Enc.pair Enc.bool (Enc.pair DBook.enc (Enc.pair (Enc.sl DMark.enc) (Enc.pair Enc.int (Enc.sl DAck.enc))))))))
theorem DLogNode.encF : az Rep.DLogNode DLogNode.ds := az.via (f := fun x : DLogNode => (x.two, x.head, x.nxt, x.more, x.book, x.seen, x.durable, x.owe)) (az.pair DTwo.encF (az.pair DHead.encF (az.pair DHead.encF (az.pair az.bool (az.pair DBook.encF (az.pair (az.sl DMark.encF) (az.pair az.int (az.sl DAck.encF))))))))
def DLogNode.small (n : Nat) (x : DLogNode) : Prop := DTwo.small n x.two ∧ DHead.small n x.head ∧ DHead.small n x.nxt ∧ DBook.small n x.book ∧ x.seen.length ≤ n ∧ x.owe.length ≤ n
structure DPair where
 key : Int
 value : Int
 deriving DecidableEq
def Rep.DPair : Rep DPair := Rep.via (fun x => (x.key, x.value)) (Rep.pair (Rep.int .i64) (Rep.int .i64))
def DPair.ds (x : DPair) : List AD := [dI x.key, dI x.value]
theorem DPair.enc : Enc Rep.DPair DPair.ds := Enc.via (f := fun x : DPair => (x.key, x.value)) (Enc.pair Enc.int Enc.int)
theorem DPair.encF : az Rep.DPair DPair.ds := az.via (f := fun x : DPair => (x.key, x.value)) (az.pair az.int az.int)
structure DJob where
 id : Int
 due : Int
 key : Int
 value : Int
 fired : Int
 deriving DecidableEq
def Rep.DJob : Rep DJob := Rep.via (fun x => (x.id, x.due, x.key, x.value, x.fired)) (Rep.pair (Rep.int .i64) (Rep.pair (Rep.int .i64) (Rep.pair (Rep.int .i64) (Rep.pair (Rep.int .i64) (Rep.int .i64)))))
def DJob.ds (x : DJob) : List AD := [dI x.id, dI x.due, dI x.key, dI x.value, dI x.fired]
theorem DJob.enc : Enc Rep.DJob DJob.ds := Enc.via (f := fun x : DJob => (x.id, x.due, x.key, x.value, x.fired)) (Enc.pair Enc.int (Enc.pair Enc.int (Enc.pair Enc.int (Enc.pair Enc.int Enc.int))))
theorem DJob.encF : az Rep.DJob DJob.ds := az.via (f := fun x : DJob => (x.id, x.due, x.key, x.value, x.fired)) (az.pair az.int (az.pair az.int (az.pair az.int (az.pair az.int az.int))))
structure DLease where
 holder : Int
 epoch : Int
 til : Int
 deriving DecidableEq
def Rep.DLease : Rep DLease := Rep.via (fun x => (x.holder, x.epoch, x.til)) (Rep.pair (Rep.int .i64) (Rep.pair (Rep.int .i64) (Rep.int .i64)))
def DLease.ds (x : DLease) : List AD := [dI x.holder, dI x.epoch, dI x.til]
theorem DLease.enc : Enc Rep.DLease DLease.ds := Enc.via (f := fun x : DLease => (x.holder, x.epoch, x.til)) (Enc.pair Enc.int (Enc.pair Enc.int Enc.int))
theorem DLease.encF : az Rep.DLease DLease.ds := az.via (f := fun x : DLease => (x.holder, x.epoch, x.til)) (az.pair az.int (az.pair az.int az.int))
structure DState where
 index : Int
 time : Int
 pairs : (List DPair)
 jobs : (List DJob)
 lease : DLease
 deriving DecidableEq
def Rep.DState : Rep DState := Rep.via (fun x => (x.index, x.time, x.pairs, x.jobs, x.lease)) (Rep.pair (Rep.int .i64) (Rep.pair (Rep.int .i64) (Rep.pair (Rep.sl Rep.DPair) (Rep.pair (Rep.sl Rep.DJob) Rep.DLease))))
def DState.ds (x : DState) : List AD := [dI x.index, dI x.time, .sl (x.pairs.map DPair.ds), .sl (x.jobs.map DJob.ds), dI x.lease.holder, dI x.lease.epoch, dI x.lease.til]
theorem DState.enc : Enc Rep.DState DState.ds := Enc.via (f := fun x : DState => (x.index, x.time, x.pairs, x.jobs, x.lease)) (Enc.pair Enc.int (Enc.pair Enc.int (Enc.pair (Enc.sl DPair.enc) (Enc.pair (Enc.sl DJob.enc) DLease.enc))))
theorem DState.encF : az Rep.DState DState.ds := az.via (f := fun x : DState => (x.index, x.time, x.pairs, x.jobs, x.lease)) (az.pair az.int (az.pair az.int (az.pair (az.sl DPair.encF) (az.pair (az.sl DJob.encF) DLease.encF))))
def DState.small (n : Nat) (x : DState) : Prop := x.pairs.length ≤ n ∧ x.jobs.length ≤ n
structure DStore where
 disk : DDisk
 state : DState
 num : Int
 last : Int
 busy : Int
 deriving DecidableEq
def Rep.DStore : Rep DStore := Rep.via (fun x => (x.disk, x.state, x.num, x.last, x.busy)) (Rep.pair Rep.DDisk (Rep.pair Rep.DState (Rep.pair (Rep.int .i64) (Rep.pair (Rep.int .i64) (Rep.int .i64)))))
def DStore.ds (x : DStore) : List AD := [.sl (x.disk.kept.map cG), .sl (x.disk.wait.map DWrite.ds), dI x.state.index, dI x.state.time, .sl (x.state.pairs.map DPair.ds), .sl (x.state.jobs.map DJob.ds), dI x.state.lease.holder, dI x.state.lease.epoch, dI x.state.lease.til, dI x.num, dI x.last, dI x.busy]
theorem DStore.enc : Enc Rep.DStore DStore.ds := Enc.via (f := fun x : DStore => (x.disk, x.state, x.num, x.last, x.busy)) (Enc.pair DDisk.enc (Enc.pair DState.enc (Enc.pair Enc.int (Enc.pair Enc.int Enc.int))))
theorem DStore.encF : az Rep.DStore DStore.ds := az.via (f := fun x : DStore => (x.disk, x.state, x.num, x.last, x.busy)) (az.pair DDisk.encF (az.pair DState.encF (az.pair az.int (az.pair az.int az.int))))
def DStore.small (n : Nat) (x : DStore) : Prop := DDisk.small n x.disk ∧ DState.small n x.state
structure DDue where
 id : Int
 due : Int
 deriving DecidableEq
def Rep.DDue : Rep DDue := Rep.via (fun x => (x.id, x.due)) (Rep.pair (Rep.int .i64) (Rep.int .i64))
def DDue.ds (x : DDue) : List AD := [dI x.id, dI x.due]
theorem DDue.enc : Enc Rep.DDue DDue.ds := Enc.via (f := fun x : DDue => (x.id, x.due)) (Enc.pair Enc.int Enc.int)
theorem DDue.encF : az Rep.DDue DDue.ds := az.via (f := fun x : DDue => (x.id, x.due)) (az.pair az.int az.int)
structure DJobs where
 index : Int
 time : Int
 holder : Int
 epoch : Int
 til : Int
 opens : (List DDue)
 deriving DecidableEq
def Rep.DJobs : Rep DJobs := Rep.via (fun x => (x.index, x.time, x.holder, x.epoch, x.til, x.opens)) (Rep.pair (Rep.int .i64) (Rep.pair (Rep.int .i64) (Rep.pair (Rep.int .i64) (Rep.pair (Rep.int .i64) (Rep.pair (Rep.int .i64) (Rep.sl Rep.DDue))))))
def DJobs.ds (x : DJobs) : List AD := [dI x.index, dI x.time, dI x.holder, dI x.epoch, dI x.til, .sl (x.opens.map DDue.ds)]
theorem DJobs.enc : Enc Rep.DJobs DJobs.ds := Enc.via (f := fun x : DJobs => (x.index, x.time, x.holder, x.epoch, x.til, x.opens)) (Enc.pair Enc.int (Enc.pair Enc.int (Enc.pair Enc.int (Enc.pair Enc.int (Enc.pair Enc.int (Enc.sl DDue.enc))))))
theorem DJobs.encF : az Rep.DJobs DJobs.ds := az.via (f := fun x : DJobs => (x.index, x.time, x.holder, x.epoch, x.til, x.opens)) (az.pair az.int (az.pair az.int (az.pair az.int (az.pair az.int (az.pair az.int (az.sl DDue.encF))))))
def DJobs.small (n : Nat) (x : DJobs) : Prop := x.opens.length ≤ n
structure DView where
 jobs : DJobs
 deriving DecidableEq
def Rep.DView : Rep DView := Rep.via (fun x => x.jobs) Rep.DJobs
def DView.ds (x : DView) : List AD := [dI x.jobs.index, dI x.jobs.time, dI x.jobs.holder, dI x.jobs.epoch, dI x.jobs.til, .sl (x.jobs.opens.map DDue.ds)]
theorem DView.enc : Enc Rep.DView DView.ds := Enc.via (f := fun x : DView => x.jobs) DJobs.enc
theorem DView.encF : az Rep.DView DView.ds := az.via (f := fun x : DView => x.jobs) DJobs.encF
def DView.small (n : Nat) (x : DView) : Prop := DJobs.small n x.jobs
structure DSched where
 id : Int
 seq : Int
 view : DView
 busy : Bool
 op : DOp
 index : Int
 deriving DecidableEq
def Rep.DSched : Rep DSched := Rep.via (fun x => (x.id, x.seq, x.view, x.busy, x.op, x.index)) (Rep.pair (Rep.int .i64) (Rep.pair (Rep.int .i64) (Rep.pair Rep.DView (Rep.pair Rep.bool (Rep.pair Rep.DOp (Rep.int .i64))))))
def DSched.ds (x : DSched) : List AD := [dI x.id, dI x.seq, dI x.view.jobs.index, dI x.view.jobs.time, dI x.view.jobs.holder, dI x.view.jobs.epoch, dI x.view.jobs.til, .sl (x.view.jobs.opens.map DDue.ds), dB x.busy, dI x.op.kind, dI x.op.a, dI x.op.b, dI x.op.c, dI x.op.d, dI x.index]
theorem DSched.enc : Enc Rep.DSched DSched.ds := Enc.via (f := fun x : DSched => (x.id, x.seq, x.view, x.busy, x.op, x.index)) (Enc.pair Enc.int (Enc.pair Enc.int (Enc.pair DView.enc (Enc.pair Enc.bool (Enc.pair DOp.enc Enc.int)))))
theorem DSched.encF : az Rep.DSched DSched.ds := az.via (f := fun x : DSched => (x.id, x.seq, x.view, x.busy, x.op, x.index)) (az.pair az.int (az.pair az.int (az.pair DView.encF (az.pair az.bool (az.pair DOp.encF az.int)))))
def DSched.small (n : Nat) (x : DSched) : Prop := DView.small n x.view
theorem DWant.enc : Enc Rep.DWant DWant.ds := Enc.via (f := fun x : DWant => (x.kind, x.op, x.key)) (Enc.pair Enc.int (Enc.pair DOp.enc Enc.int))
theorem DWant.encF : az Rep.DWant DWant.ds := az.via (f := fun x : DWant => (x.kind, x.op, x.key)) (az.pair az.int (az.pair DOp.encF az.int))
structure DGot where
 seq : Int
 index : Int
 has : Int
 value : Int
 deriving DecidableEq
def Rep.DGot : Rep DGot := Rep.via (fun x => (x.seq, x.index, x.has, x.value)) (Rep.pair (Rep.int .i64) (Rep.pair (Rep.int .i64) (Rep.pair (Rep.int .i64) (Rep.int .i64))))
def DGot.ds (x : DGot) : List AD := [dI x.seq, dI x.index, dI x.has, dI x.value]
theorem DGot.enc : Enc Rep.DGot DGot.ds := Enc.via (f := fun x : DGot => (x.seq, x.index, x.has, x.value)) (Enc.pair Enc.int (Enc.pair Enc.int (Enc.pair Enc.int Enc.int)))
theorem DGot.encF : az Rep.DGot DGot.ds := az.via (f := fun x : DGot => (x.seq, x.index, x.has, x.value)) (az.pair az.int (az.pair az.int (az.pair az.int az.int)))
structure DClient where
 id : Int
 todo : (List DWant)
 gots : (List DGot)
 last : Int
 deriving DecidableEq
def Rep.DClient : Rep DClient := Rep.via (fun x => (x.id, x.todo, x.gots, x.last)) (Rep.pair (Rep.int .i64) (Rep.pair (Rep.sl Rep.DWant) (Rep.pair (Rep.sl Rep.DGot) (Rep.int .i64))))
def DClient.ds (x : DClient) : List AD := [dI x.id, .sl (x.todo.map DWant.ds), .sl (x.gots.map DGot.ds), dI x.last]
theorem DClient.enc : Enc Rep.DClient DClient.ds := Enc.via (f := fun x : DClient => (x.id, x.todo, x.gots, x.last)) (Enc.pair Enc.int (Enc.pair (Enc.sl DWant.enc) (Enc.pair (Enc.sl DGot.enc) Enc.int)))
theorem DClient.encF : az Rep.DClient DClient.ds := az.via (f := fun x : DClient => (x.id, x.todo, x.gots, x.last)) (az.pair az.int (az.pair (az.sl DWant.encF) (az.pair (az.sl DGot.encF) az.int)))
def DClient.small (n : Nat) (x : DClient) : Prop := x.todo.length ≤ n ∧ x.gots.length ≤ n
def DMsg.ds (x : DMsg) : List AD := [dI x.frm, dI x.to_, .sl (x.row.map eI)]
theorem DMsg.enc : Enc Rep.DMsg DMsg.ds := Enc.via (f := fun x : DMsg => (x.frm, x.to_, x.row)) (Enc.pair Enc.int (Enc.pair Enc.int (Enc.sl Enc.int)))
theorem DMsg.encF : az Rep.DMsg DMsg.ds := az.via (f := fun x : DMsg => (x.frm, x.to_, x.row)) (az.pair az.int (az.pair az.int (az.sl az.int)))
def DMsg.small (n : Nat) (x : DMsg) : Prop := x.row.length ≤ n
def DLink.ds (x : DLink) : List AD := [dI x.a, dI x.b]
theorem DLink.enc : Enc Rep.DLink DLink.ds := Enc.via (f := fun x : DLink => (x.a, x.b)) (Enc.pair Enc.int Enc.int)
theorem DLink.encF : az Rep.DLink DLink.ds := az.via (f := fun x : DLink => (x.a, x.b)) (az.pair az.int az.int)
def DNet.ds (x : DNet) : List AD := [.sl (x.flight.map DMsg.ds), .sl (x.cuts.map DLink.ds)]
theorem DNet.enc : Enc Rep.DNet DNet.ds := Enc.via (f := fun x : DNet => (x.flight, x.cuts)) (Enc.pair (Enc.sl DMsg.enc) (Enc.sl DLink.enc))
theorem DNet.encF : az Rep.DNet DNet.ds := az.via (f := fun x : DNet => (x.flight, x.cuts)) (az.pair (az.sl DMsg.encF) (az.sl DLink.encF))
def DNet.small (n : Nat) (x : DNet) : Prop := x.flight.length ≤ n ∧ (∀ y ∈ x.flight, DMsg.small n y) ∧ x.cuts.length ≤ n
structure DWorld where
 log : DLogNode
 store : DStore
 left : DSched
 right : DSched
 ann : DClient
 bob : DClient
 net : DNet
 clocks : (List Int)
 up : (List Bool)
 deriving DecidableEq
def Rep.DWorld : Rep DWorld := Rep.via (fun x => (x.log, x.store, x.left, x.right, x.ann, x.bob, x.net, x.clocks, x.up)) (Rep.pair Rep.DLogNode (Rep.pair Rep.DStore (Rep.pair Rep.DSched (Rep.pair Rep.DSched (Rep.pair Rep.DClient (Rep.pair Rep.DClient (Rep.pair Rep.DNet (Rep.pair (Rep.sl (Rep.int .i64)) (Rep.sl Rep.bool)))))))))
def DWorld.ds (x : DWorld) : List AD := [.sl (x.log.two.a.kept.map cG), .sl (x.log.two.a.wait.map DWrite.ds), .sl (x.log.two.b.kept.map cG), .sl (x.log.two.b.wait.map DWrite.ds), dI x.log.head.num, dI x.log.head.base, dI x.log.head.time, .sl (x.log.head.seen.map DMark.ds), dI x.log.nxt.num, dI x.log.nxt.base, dI x.log.nxt.time, .sl (x.log.nxt.seen.map DMark.ds), dB x.log.more, dI x.log.book.base, dI x.log.book.time, .sl (x.log.book.entries.map DEntry.ds), .sl (x.log.seen.map DMark.ds), dI x.log.durable, .sl (x.log.owe.map DAck.ds), .sl (x.store.disk.kept.map cG), .sl (x.store.disk.wait.map DWrite.ds), dI x.store.state.index, dI x.store.state.time, .sl (x.store.state.pairs.map DPair.ds), .sl (x.store.state.jobs.map DJob.ds), dI x.store.state.lease.holder, dI x.store.state.lease.epoch, dI x.store.state.lease.til, dI x.store.num, dI x.store.last, dI x.store.busy, dI x.left.id, dI x.left.seq, dI x.left.view.jobs.index, dI x.left.view.jobs.time, dI x.left.view.jobs.holder, dI x.left.view.jobs.epoch, dI x.left.view.jobs.til, .sl (x.left.view.jobs.opens.map DDue.ds), dB x.left.busy, dI x.left.op.kind, dI x.left.op.a, dI x.left.op.b, dI x.left.op.c, dI x.left.op.d, dI x.left.index, dI x.right.id, dI x.right.seq, dI x.right.view.jobs.index, dI x.right.view.jobs.time, dI x.right.view.jobs.holder, dI x.right.view.jobs.epoch, dI x.right.view.jobs.til, .sl (x.right.view.jobs.opens.map DDue.ds), dB x.right.busy, dI x.right.op.kind, dI x.right.op.a, dI x.right.op.b, dI x.right.op.c, dI x.right.op.d, dI x.right.index, dI x.ann.id, .sl (x.ann.todo.map DWant.ds), .sl (x.ann.gots.map DGot.ds), dI x.ann.last, dI x.bob.id, .sl (x.bob.todo.map DWant.ds), .sl (x.bob.gots.map DGot.ds), dI x.bob.last, .sl (x.net.flight.map DMsg.ds), .sl (x.net.cuts.map DLink.ds), .sl (x.clocks.map eI), .sl (x.up.map eB)]
theorem DWorld.enc : Enc Rep.DWorld DWorld.ds := Enc.via (f := fun x : DWorld => (x.log, x.store, x.left, x.right, x.ann, x.bob, x.net, x.clocks, x.up)) (Enc.pair DLogNode.enc (Enc.pair DStore.enc (Enc.pair DSched.enc (Enc.pair DSched.enc (Enc.pair DClient.enc (Enc.pair DClient.enc (Enc.pair DNet.enc (Enc.pair (Enc.sl Enc.int) (Enc.sl Enc.bool)))))))))
theorem DWorld.encF : az Rep.DWorld DWorld.ds := az.via (f := fun x : DWorld => (x.log, x.store, x.left, x.right, x.ann, x.bob, x.net, x.clocks, x.up)) (az.pair DLogNode.encF (az.pair DStore.encF (az.pair DSched.encF (az.pair DSched.encF (az.pair DClient.encF (az.pair DClient.encF (az.pair DNet.encF (az.pair (az.sl az.int) (az.sl az.bool)))))))))
def DWorld.small (n : Nat) (x : DWorld) : Prop := DLogNode.small n x.log ∧ DStore.small n x.store ∧ DSched.small n x.left ∧ DSched.small n x.right ∧ DClient.small n x.ann ∧ DClient.small n x.bob ∧ DNet.small n x.net ∧ x.clocks.length ≤ n ∧ x.up.length ≤ n
end Go.Proofs.YtcmknngafflcnaaGreat
namespace Go.Proofs.YtcmknngafflcnaaGreat
open Go.ChangeShapes Go.WideShapes Go.RowKit
section
variable {α : Type}
def HL (n : Nat) (ok : Nat → Bool) : Bool := (List.range n).all ok
theorem FT {n k : Nat} {ok : Nat → Bool} (hk : k < n) (h : ok k = false) : HL n ok = false := by
 rw [← Bool.not_eq_true]
 intro hall
 have := List.all_eq_true.1 hall k (List.mem_range.2 hk)
 rw [h] at this
 cases this
theorem EI {n : Nat} {ok : Nat → Bool} (h : ∀ k, k < n → ok k = true) : HL n ok = true :=
 List.all_eq_true.2 fun k hk => h k (List.mem_range.1 hk)
theorem ku {l : List α} {p : α → Bool} {k : Nat} (hk : k < l.length) (h : p l[k] = false) : l.all p = false := by
 rw [← Bool.not_eq_true]
 intro hall
 have := List.all_eq_true.1 hall _ (List.getElem_mem hk)
 rw [h] at this
 cases this
theorem xU {l : List α} {p : α → Bool} (h : ∀ (k : Nat) (hk : k < l.length), p l[k] = true) : l.all p = true := by
 refine List.all_eq_true.2 fun x hx => ?_
 obtain ⟨k, hk, rfl⟩ := List.getElem_of_mem hx
 exact h k hk
theorem ox {l : List α} {p : α → Bool} (h : l.all p = true) {k : Nat} (hk : k < l.length) : p l[k] = true := List.all_eq_true.1 h _ (List.getElem_mem hk)
def ib (Q : α → α → Bool) : List α → Bool
 | x :: y :: r => Q x y && ib Q (y :: r)
 | _ => true
theorem m4 {Q : α → α → Bool} : ∀ {l : List α}, ib Q l = true → ∀ {k : Nat} (hk : k + 1 < l.length), Q (l[k]'(by omega)) l[k + 1] = true
 | x :: y :: r, h, k, hk => by
  simp only [ib, Bool.and_eq_true] at h
  cases k with
  | zero => exact h.1
  | succ k => exact m4 (l := y :: r) h.2 (k := k) (by simpa using hk)
 | [], _, k, hk => by simp at hk
 | [x], _, k, hk => by simp at hk
theorem zi {Q : α → α → Bool} : ∀ {l : List α}, (∀ (k : Nat) (hk : k + 1 < l.length), Q (l[k]'(by omega)) l[k + 1] = true) → ib Q l = true
 | x :: y :: r, h => by
  simp only [ib, Bool.and_eq_true]
  refine ⟨h 0 (by simp), zi (l := y :: r) fun k hk => ?_⟩
  have := h (k + 1) (by simpa using hk)
  simpa using this
 | [], _ => rfl
 | [x], _ => rfl
theorem FS {Q : α → α → Bool} {l : List α} {k : Nat} (hk : k + 1 < l.length) (h : Q (l[k]'(by omega)) l[k + 1] = false) : ib Q l = false := by
 rw [← Bool.not_eq_true]
 intro hall
 rw [m4 hall hk] at h
 cases h
def cC (R : α → α → Bool) : List α → Bool
 | [] => true
 | x :: r => r.all (fun y => !R x y) && cC R r
theorem qp {R : α → α → Bool} : ∀ {l : List α}, cC R l = true → ∀ {j k : Nat} (hj : j < k) (hk : k < l.length), R (l[j]'(by omega)) l[k] = false
 | x :: r, h, j, k, hj, hk => by
  simp only [cC, Bool.and_eq_true] at h
  match j, k, hj with
  | 0, k + 1, _ =>
   have := ox h.1 (k := k) (by simpa using hk)
   simpa using this
  | j + 1, k + 1, hj => exact qp (l := r) h.2 (j := j) (k := k) (by omega) (by simpa using hk)
 | [], _, j, k, _, hk => by simp at hk
theorem kv {R : α → α → Bool} : ∀ {l : List α}, (∀ (j k : Nat) (hj : j < k) (hk : k < l.length), R (l[j]'(by omega)) l[k] = false) → cC R l = true
 | [], _ => rfl
 | x :: r, h => by
  simp only [cC, Bool.and_eq_true]
  refine ⟨xU fun k hk => ?_, kv fun j k hj hk => ?_⟩
  ·have := h 0 (k + 1) (by omega) (by simpa using hk)
   simpa using this
  ·have := h (j + 1) (k + 1) (by omega) (by simpa using hk)
   simpa using this
theorem m8 {R : α → α → Bool} {l : List α} {j k : Nat} (hj : j < k) (hk : k < l.length) (h : R (l[j]'(by omega)) l[k] = true) : cC R l = false := by
 rw [← Bool.not_eq_true]
 intro hall
 rw [qp hall hj hk] at h
 cases h
end
def tOk (t : Int) : Bool := aj t 0 1000000
def fX (l : List Int) : Bool := decide (l.length ≤ 48) && l.all fun x => aj x 0 1000000000
def eN (n : Nat) (x : DWrite) : Bool := aj x.at_ 0 ((n : Int) - 1) && fX x.row
def fM (d : DDisk) : Bool := decide (1 ≤ d.kept.length) && decide (d.kept.length ≤ 40) && decide (d.wait.length ≤ 60) && d.kept.all fX && d.wait.all (eN d.kept.length)
def sR (t : DTwo) : Bool := fM t.a && fM t.b && decide (t.a.kept.length = t.b.kept.length)
def ey (a b : Int) : Bool := aj a 0 5 && aj b 0 5 && a != b
def j3 (m : DMsg) : Bool := ey m.frm m.to_ && decide (0 < m.row.length) && fX m.row
def gV (x y : DLink) : Bool := decide (x.a < y.a) || (x.a == y.a && decide (x.b < y.b))
def cT (x : DLink) : Bool := ey x.a x.b && decide (x.a ≤ x.b)
def j4 (n : DNet) : Bool := decide (n.flight.length ≤ 60) && decide (n.cuts.length ≤ 15) && n.flight.all j3 && n.cuts.all cT && ib gV n.cuts
def cg (l : List Int) : Bool := decide (l.length = 6) && l.all tOk
def ja (x y : DEntry) : Bool := y.index == x.index + 1 && decide (x.time ≤ y.time)
def cX (l : List DEntry) : Bool := decide (l.length ≤ 2000) && l.all bW && ib ja l
def bP (b : DBook) : Bool := aj b.base 0 2000 && tOk b.time && !(b.base == 0 && b.time != 0) && decide (b.entries.length ≤ 20) && cX b.entries && (match b.entries with | [] => true | e :: _ => e.index == b.base + 1 && decide (b.time ≤ e.time))
def ct (m : DMark) : Bool := aj m.client 2 5 && aj m.seq 1 2000 && aj m.index 1 2000
def fk (x y : DMark) : Bool := decide (x.client < y.client)
def lg (x y : DMark) : Bool := x.index == y.index
def bw (s : List DMark) : Bool := s.all ct && ib fk s && cC lg s
def da (s : List DMark) (c : Int) : DMark := (s.find? fun m => m.client == c).getD ⟨0, 0, 0⟩
def bi : List DMark → Int := List.foldl (fun x m => if m.index > x then m.index else x) 0
def iI (s : List DMark) (e : DEntry) : Bool := decide ((da s e.client).seq < e.seq)
def DEntry.mark (e : DEntry) : DMark := ⟨e.client, e.seq, e.index⟩
def putMark (s : List DMark) (m : DMark) : List DMark := s.filter (fun x => decide (x.client < m.client)) ++ m :: s.filter (fun x => decide (m.client < x.client))
def cy (s : List DMark) (e : DEntry) : Option (List DMark) := if bW e && iI s e && decide (bi s < e.index) then some (putMark s e.mark) else none
def bL : List DMark → List DEntry → Option (List DMark)
 | s, [] => some s
 | s, e :: r => match cy s e with
  | some s' => bL s' r
  | none => none
def aW (s : List DMark) (l : List DEntry) : List DMark × Bool :=
 if !bw s then ([], false) else if 2000 < l.length then (s, false) else match bL s l with | some o => (o, true) | none => (s, false)
def ej (h : DHead) : Bool := aj h.base 0 2000 && aj h.num 0 h.base && tOk h.time && (decide (0 < h.base) || h.time == 0) && bw h.seen && bi h.seen == h.base
def p4 (t : DTwo) : Bool := sR t && decide (t.a.kept.length = 22)
def cM (b : DBook) : Int := b.base + b.entries.length
def lE : DHead := ⟨0, 0, 0, []⟩
def bI (e : DEntry) : DAck := if bW e then ⟨e.client, e.seq, e.index, e.seq⟩ else ⟨0, 0, 0, 0⟩
def d5 (b : DBook) (d : Int) : List DEntry := b.entries.filter fun e => decide (d + 1 ≤ e.index)
def jK (b : DBook) (i : Int) : List DEntry := b.entries.take (i - b.base).toNat
def gW (n : DLogNode) : DHead := ⟨n.head.num + 1, n.nxt.base, (n.book.entries.getD (n.nxt.base - n.book.base - 1).toNat ⟨0, 0, 0, 0, ⟨0, 0, 0, 0, 0⟩⟩).time, (aW n.head.seen (jK n.book n.nxt.base)).1⟩
def gH (n : DLogNode) : Bool := if n.more then aj n.nxt.base (n.head.base + 1) n.durable && n.nxt == gW n else n.nxt == lE
def jZ (n : DLogNode) : Bool := p4 n.two && ej n.head && bP n.book && n.book.base == n.head.base && n.book.time == n.head.time && aW n.head.seen n.book.entries == (n.seen, true) && aj n.durable n.book.base (cM n.book) && n.owe == (d5 n.book n.durable).map bI && gH n
def ld (n : DLogNode) : Bool := sR n.two && n == ⟨n.two, lE, lE, false, ⟨0, 0, []⟩, [], 0, []⟩
def du (p : DPair) : Bool := aj p.key 0 9 && aj p.value 0 999
def fV (x y : DPair) : Bool := decide (x.key < y.key)
def cf (l : List DPair) : Bool := l.all du && ib fV l
def jY (j : DJob) : Bool := aj j.id 1 20 && tOk j.due && aj j.key 0 9 && aj j.value 0 999 && aj j.fired 0 2000
def pD (x y : DJob) : Bool := decide (x.id < y.id)
def iJ (x y : DJob) : Bool := y.fired != 0 && x.fired == y.fired
def cr (l : List DJob) : Bool := decide (l.length ≤ 8) && l.all jY && ib pD l && cC iJ l
def fd (x : Int) : Bool := x == 2 || x == 3
def il (l : DLease) : Bool := l == ⟨0, 0, 0⟩ || (fd l.holder && aj l.epoch 1 1000 && aj l.til 1 1001000)
def cz (s : DState) : Bool := aj s.index 0 2000 && tOk s.time && cf s.pairs && cr s.jobs && il s.lease && s.jobs.all fun j => decide (j.fired ≤ s.index)
def o4 (d : DDisk) : Bool := fM d && decide (d.kept.length = 8)
def jk (s : DStore) : Bool := o4 s.disk && cz s.state && aj s.num 0 1000000000 && aj s.last 0 s.state.index && ((s.num == 0) == (s.last == 0)) && (s.busy == 0 || (decide (s.num < 1000000000) && decide (s.last < s.busy) && decide (s.busy ≤ s.state.index)))
def iM : DState := ⟨0, 0, [], [], ⟨0, 0, 0⟩⟩
def fE (s : DStore) : Bool := fM s.disk && s == ⟨s.disk, iM, 0, 0, 0⟩
def fN (d : DDue) : Bool := aj d.id 1 20 && tOk d.due
def jJ (x y : DDue) : Bool := decide (x.due < y.due) || (x.due == y.due && decide (x.id < y.id))
def ny (x y : DDue) : Bool := x.id == y.id
def k9 (j : DJobs) : Bool := aj j.index 0 2000 && tOk j.time && (j.holder == 0 || fd j.holder) && aj j.epoch 0 1000 && aj j.til 0 1001000 && decide (j.opens.length ≤ 8) && j.opens.all fN && ib jJ j.opens && cC ny j.opens
def op0 : DOp := ⟨0, 0, 0, 0, 0⟩
def fb (s : DSched) : Bool := fd s.id && aj s.seq 0 2000 && k9 s.view.jobs && aj s.index 0 2000 && (if s.busy then s.seq != 0 && Cs s.op && (s.op.kind == 4 || s.op.kind == 5) else s.op == op0)
def qa (id : Int) : DSched := ⟨id, 0, ⟨⟨0, 0, 0, 0, 0, []⟩⟩, false, op0, 0⟩
def cJ (s : DSched) (id : Int) (up : Bool) : Bool := fb s && s.id == id && (up || s == qa id)
def qD (w : DWant) (g : DGot) (seq last : Int) : Bool := g.seq == seq && aj g.index last 2000 && (if w.kind == 4 then (g.has == 0 && g.value == 0) || (g.has == 1 && aj g.value 0 999) else decide (last < g.index) && g.has == 0 && g.value == 0)
def la (gs : List DGot) (k : Nat) : Int := match k with | 0 => 0 | j + 1 => (gs.getD j ⟨0, 0, 0, 0⟩).index
def cE (c : DClient) : Bool := (c.id == 4 || c.id == 5) && c.todo.all eF && decide (c.todo.length ≤ 12) && decide (c.gots.length ≤ c.todo.length) && HL c.gots.length (fun k => qD (c.todo.getD k ⟨0, op0, 0⟩) (c.gots.getD k ⟨0, 0, 0, 0⟩) ((k : Int) + 1) (la c.gots k)) && c.last == la c.gots c.gots.length
def gY (w : DWorld) (k : Nat) : Bool := w.up.getD k false
def fg (w : DWorld) : Bool := cg w.clocks && decide (w.up.length = 6) && j4 w.net && gY w 4 && gY w 5 && cE w.ann && w.ann.id == 4 && cE w.bob && w.bob.id == 5 && cJ w.left 2 (gY w 2) && cJ w.right 3 (gY w 3) && (if gY w 0 then jZ w.log else ld w.log) && (if gY w 1 then jk w.store else fE w.store)
end Go.Proofs.YtcmknngafflcnaaGreat
