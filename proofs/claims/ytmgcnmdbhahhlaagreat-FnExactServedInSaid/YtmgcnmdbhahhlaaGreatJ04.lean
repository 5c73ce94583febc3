/- Joined: WB WData WOk -/
import Derived.Test.YtmgcnmdbhahhlaaGreatAvEnv
import Derived.Test.YtmgcnmdbhahhlaaGreatJ02
import Derived.Test.YtmgcnmdbhahhlaaGreatJ03
set_option linter.unusedVariables false
set_option linter.unusedSimpArgs false
set_option maxRecDepth 100000
namespace Go.Proofs.YtmgcnmdbhahhlaaGreat
open Go.ChangeShapes Go.WideShapes Go.RowKit

def opOk (o : DOp) : Bool :=
  if o.kind = 1 then betweenB o.a 0 9 && betweenB o.b 0 999 && (o.c == 0) && (o.d == 0)
  else if o.kind = 2 then betweenB o.a 0 9 && (o.b == 0) && (o.c == 0) && (o.d == 0)
  else if o.kind = 3 then betweenB o.a 1 20 && betweenB o.b 0 1000000 && betweenB o.c 0 9 && betweenB o.d 0 999
  else if o.kind = 4 then betweenB o.a 1 20 && betweenB o.b 0 1000 && (o.c == 0) && (o.d == 0)
  else if o.kind = 5 then betweenB o.a 1 1000 && (o.b == 0) && (o.c == 0) && (o.d == 0)
  else false
def entryOk (e : DEntry) : Bool := betweenB e.index 1 2000 && betweenB e.time 0 1000000 && betweenB e.client 2 5 && betweenB e.seq 1 2000 && opOk e.op
def DEntry.ds (e : DEntry) : List AD := [dI e.index, dI e.time, dI e.client, dI e.seq, dI e.op.kind, dI e.op.a, dI e.op.b, dI e.op.c, dI e.op.d]
abbrev DOp.ds (o : DOp) : List AD := [dI o.kind, dI o.a, dI o.b, dI o.c, dI o.d]
def DOp.v (o : DOp) : Value := .agg #[.int .i64 o.kind, .int .i64 o.a, .int .i64 o.b, .int .i64 o.c, .int .i64 o.d]
def wantOk (x : DWant) : Bool := if x.kind == 4 then (x.op == ⟨0, 0, 0, 0, 0⟩ && betweenB x.key 0 9) else if x.kind == 1 || x.kind == 2 || x.kind == 3 then (opOk x.op && x.op.kind == x.kind && x.key == 0) else false
def DWant.ds (e : DWant) : List AD := [dI e.kind, dI e.op.kind, dI e.op.a, dI e.op.b, dI e.op.c, dI e.op.d, dI e.key]
theorem eqIn_int (w : World) (d : Nat) (a b : Int) : (Op.equalIn (d + 1) 2 (.int .i64 a) (.int .i64 b)).run Tryz.prog w = .ok (a == b) w := by
  have hi := run_underlying (w := w) Tryz.underlying2
  simp [Op.equalIn, hi]
theorem part_int (w : World) (xs : Array Value) (i : Nat) (v : Value) (h : xs[i]? = some v) : (part 2 xs i).run Tryz.prog w = .ok v w := by
  simp [part, Tryz.isAgg2, Tryz.sizeOf2, h]
theorem take_snocW {α β : Type} (f : α → β) {l : List α} {k : Nat} (hk : k < l.length) : (l.take (k + 1)).map f = (l.take k).map f ++ [f l[k]] := by
  rw [List.take_succ_eq_append_getElem hk, List.map_append]; rfl
theorem ibetween_p (x lo hi : Int) : PCall av 43 [pI x, pI lo, pI hi] (rB (betweenB x lo hi)) := by
  refine pcall_of av_ok Tryz.func43 rfl Tryz.call43 Tryz.ntmps43 (congrArg Array.toList Tryz.results43) fun S => ?_; conv => whnf
  repeat' (first | (refine aw0 ?_) | ((first | refine aw1 ?_ | refine aw2 ?_ | refine aw3 ?_ | refine aw4 ?_ | refine aw5 ?_ | refine aw6 ?_ | refine aw7 ?_ | refine aw8 ?_); conv => whnf) | ((first | refine bT ?_ | refine bF ?_); conv => whnf) | (exact rr) | (refine And.intro rfl ?_; conv => whnf) | (refine AB.mk (fun h => ?_) (fun h => ?_) <;> (conv => whnf)))
  all_goals first
    | (simp_all [betweenB]; done)
    | (simp_all [betweenB]; intros; omega)
theorem sl1In_p (x lo hi : Int) : PCall av 164 [pI x, pI lo, pI hi] (rB (betweenB x lo hi)) := by
  refine pcall_of av_ok Tryz.func164 rfl Tryz.call164 Tryz.ntmps164 (congrArg Array.toList Tryz.results164) fun S => ?_; conv => whnf
  repeat' (first | (refine aw0 ?_) | ((first | refine aw1 ?_ | refine aw2 ?_ | refine aw3 ?_ | refine aw4 ?_ | refine aw5 ?_ | refine aw6 ?_ | refine aw7 ?_ | refine aw8 ?_); conv => whnf) | ((first | refine bT ?_ | refine bF ?_); conv => whnf) | (exact rr) | (refine And.intro rfl ?_; conv => whnf) | (refine AB.mk (fun h => ?_) (fun h => ?_) <;> (conv => whnf)))
  all_goals first
    | (simp_all [betweenB]; done)
    | (simp_all [betweenB]; intros; omega)
theorem inodeOk_p (x : Int) : PCall av 168 [pI x] (rB (betweenB x 0 5)) := by
  refine pcall_of av_ok Tryz.func168 rfl Tryz.call168 Tryz.ntmps168 (congrArg Array.toList Tryz.results168) fun S => ?_; conv => whnf
  repeat' (first | (refine aw0 ?_) | ((first | refine aw1 ?_ | refine aw2 ?_ | refine aw3 ?_ | refine aw4 ?_ | refine aw5 ?_ | refine aw6 ?_ | refine aw7 ?_ | refine aw8 ?_); conv => whnf) | ((first | refine bT ?_ | refine bF ?_); conv => whnf) | (refine ACall.pure (ibetween_p _ _ _) rfl ?_; conv => whnf) | (refine AFCall.mk ⟨_, _, ibetween_p _ _ _, .inl rfl, ?_⟩; conv => whnf) | (exact rr) | (refine And.intro rfl ?_; conv => whnf) | (refine AB.mk (fun h => ?_) (fun h => ?_) <;> (conv => whnf)))
theorem ikeyOk_p (x : Int) : PCall av 346 [pI x] (rB (betweenB x 0 9)) := by
  refine pcall_of av_ok Tryz.func346 rfl Tryz.call346 Tryz.ntmps346 (congrArg Array.toList Tryz.results346) fun S => ?_; conv => whnf
  repeat' (first | (refine aw0 ?_) | ((first | refine aw1 ?_ | refine aw2 ?_ | refine aw3 ?_ | refine aw4 ?_ | refine aw5 ?_ | refine aw6 ?_ | refine aw7 ?_ | refine aw8 ?_); conv => whnf) | ((first | refine bT ?_ | refine bF ?_); conv => whnf) | (refine ACall.pure (ibetween_p _ _ _) rfl ?_; conv => whnf) | (refine AFCall.mk ⟨_, _, ibetween_p _ _ _, .inl rfl, ?_⟩; conv => whnf) | (exact rr) | (refine And.intro rfl ?_; conv => whnf) | (refine AB.mk (fun h => ?_) (fun h => ?_) <;> (conv => whnf)))
theorem ivalueOk_p (x : Int) : PCall av 347 [pI x] (rB (betweenB x 0 999)) := by
  refine pcall_of av_ok Tryz.func347 rfl Tryz.call347 Tryz.ntmps347 (congrArg Array.toList Tryz.results347) fun S => ?_; conv => whnf
  repeat' (first | (refine aw0 ?_) | ((first | refine aw1 ?_ | refine aw2 ?_ | refine aw3 ?_ | refine aw4 ?_ | refine aw5 ?_ | refine aw6 ?_ | refine aw7 ?_ | refine aw8 ?_); conv => whnf) | ((first | refine bT ?_ | refine bF ?_); conv => whnf) | (refine ACall.pure (ibetween_p _ _ _) rfl ?_; conv => whnf) | (refine AFCall.mk ⟨_, _, ibetween_p _ _ _, .inl rfl, ?_⟩; conv => whnf) | (exact rr) | (refine And.intro rfl ?_; conv => whnf) | (refine AB.mk (fun h => ?_) (fun h => ?_) <;> (conv => whnf)))
theorem iidOk_p (x : Int) : PCall av 345 [pI x] (rB (betweenB x 1 20)) := by
  refine pcall_of av_ok Tryz.func345 rfl Tryz.call345 Tryz.ntmps345 (congrArg Array.toList Tryz.results345) fun S => ?_; conv => whnf
  repeat' (first | (refine aw0 ?_) | ((first | refine aw1 ?_ | refine aw2 ?_ | refine aw3 ?_ | refine aw4 ?_ | refine aw5 ?_ | refine aw6 ?_ | refine aw7 ?_ | refine aw8 ?_); conv => whnf) | ((first | refine bT ?_ | refine bF ?_); conv => whnf) | (refine ACall.pure (ibetween_p _ _ _) rfl ?_; conv => whnf) | (refine AFCall.mk ⟨_, _, ibetween_p _ _ _, .inl rfl, ?_⟩; conv => whnf) | (exact rr) | (refine And.intro rfl ?_; conv => whnf) | (refine AB.mk (fun h => ?_) (fun h => ?_) <;> (conv => whnf)))
theorem iseqOk_p (x : Int) : PCall av 359 [pI x] (rB (betweenB x 1 2000)) := by
  refine pcall_of av_ok Tryz.func359 rfl Tryz.call359 Tryz.ntmps359 (congrArg Array.toList Tryz.results359) fun S => ?_; conv => whnf
  repeat' (first | (refine aw0 ?_) | ((first | refine aw1 ?_ | refine aw2 ?_ | refine aw3 ?_ | refine aw4 ?_ | refine aw5 ?_ | refine aw6 ?_ | refine aw7 ?_ | refine aw8 ?_); conv => whnf) | ((first | refine bT ?_ | refine bF ?_); conv => whnf) | (refine ACall.pure (ibetween_p _ _ _) rfl ?_; conv => whnf) | (refine AFCall.mk ⟨_, _, ibetween_p _ _ _, .inl rfl, ?_⟩; conv => whnf) | (exact rr) | (refine And.intro rfl ?_; conv => whnf) | (refine AB.mk (fun h => ?_) (fun h => ?_) <;> (conv => whnf)))
theorem iindexOk_p (x : Int) : PCall av 360 [pI x] (rB (betweenB x 1 2000)) := by
  refine pcall_of av_ok Tryz.func360 rfl Tryz.call360 Tryz.ntmps360 (congrArg Array.toList Tryz.results360) fun S => ?_; conv => whnf
  repeat' (first | (refine aw0 ?_) | ((first | refine aw1 ?_ | refine aw2 ?_ | refine aw3 ?_ | refine aw4 ?_ | refine aw5 ?_ | refine aw6 ?_ | refine aw7 ?_ | refine aw8 ?_); conv => whnf) | ((first | refine bT ?_ | refine bF ?_); conv => whnf) | (refine ACall.pure (ibetween_p _ _ _) rfl ?_; conv => whnf) | (refine AFCall.mk ⟨_, _, ibetween_p _ _ _, .inl rfl, ?_⟩; conv => whnf) | (exact rr) | (refine And.intro rfl ?_; conv => whnf) | (refine AB.mk (fun h => ?_) (fun h => ?_) <;> (conv => whnf)))
theorem iTimeOk_p (x : Int) : PCall av 207 [pI x] (rB (betweenB x 0 1000000)) := by
  refine pcall_of av_ok Tryz.func207 rfl Tryz.call207 Tryz.ntmps207 (congrArg Array.toList Tryz.results207) fun S => ?_; conv => whnf
  repeat' (first | (refine aw0 ?_) | ((first | refine aw1 ?_ | refine aw2 ?_ | refine aw3 ?_ | refine aw4 ?_ | refine aw5 ?_ | refine aw6 ?_ | refine aw7 ?_ | refine aw8 ?_); conv => whnf) | ((first | refine bT ?_ | refine bF ?_); conv => whnf) | (refine ACall.pure (ibetween_p _ _ _) rfl ?_; conv => whnf) | (refine AFCall.mk ⟨_, _, ibetween_p _ _ _, .inl rfl, ?_⟩; conv => whnf) | (exact rr) | (refine And.intro rfl ?_; conv => whnf) | (refine AB.mk (fun h => ?_) (fun h => ?_) <;> (conv => whnf)))
theorem iAskerOk_p (x : Int) : PCall av 358 [pI x] (rB (betweenB x 2 5)) := by
  refine pcall_of av_ok Tryz.func358 rfl Tryz.call358 Tryz.ntmps358 (congrArg Array.toList Tryz.results358) fun S => ?_; conv => whnf
  repeat' (first | (refine aw0 ?_) | ((first | refine aw1 ?_ | refine aw2 ?_ | refine aw3 ?_ | refine aw4 ?_ | refine aw5 ?_ | refine aw6 ?_ | refine aw7 ?_ | refine aw8 ?_); conv => whnf) | ((first | refine bT ?_ | refine bF ?_); conv => whnf) | (refine ACall.pure (ibetween_p _ _ _) rfl ?_; conv => whnf) | (refine AFCall.mk ⟨_, _, ibetween_p _ _ _, .inl rfl, ?_⟩; conv => whnf) | (exact rr) | (refine And.intro rfl ?_; conv => whnf) | (refine AB.mk (fun h => ?_) (fun h => ?_) <;> (conv => whnf)))
theorem sl22Node_p (x : Int) : PCall av 169 [pI x] (rB (betweenB x 0 5)) := by
  refine pcall_of av_ok Tryz.func169 rfl Tryz.call169 Tryz.ntmps169 (congrArg Array.toList Tryz.results169) fun S => ?_; conv => whnf
  repeat' (first | (refine aw0 ?_) | ((first | refine aw1 ?_ | refine aw2 ?_ | refine aw3 ?_ | refine aw4 ?_ | refine aw5 ?_ | refine aw6 ?_ | refine aw7 ?_ | refine aw8 ?_); conv => whnf) | ((first | refine bT ?_ | refine bF ?_); conv => whnf) | (refine ACall.pure (sl1In_p _ _ _) rfl ?_; conv => whnf) | (refine AFCall.mk ⟨_, _, sl1In_p _ _ _, .inl rfl, ?_⟩; conv => whnf) | (exact rr) | (refine And.intro rfl ?_; conv => whnf) | (refine AB.mk (fun h => ?_) (fun h => ?_) <;> (conv => whnf)))
theorem sl5Node_p (x : Int) : PCall av 192 [pI x] (rB (betweenB x 0 5)) := by
  refine pcall_of av_ok Tryz.func192 rfl Tryz.call192 Tryz.ntmps192 (congrArg Array.toList Tryz.results192) fun S => ?_; conv => whnf
  repeat' (first | (refine aw0 ?_) | ((first | refine aw1 ?_ | refine aw2 ?_ | refine aw3 ?_ | refine aw4 ?_ | refine aw5 ?_ | refine aw6 ?_ | refine aw7 ?_ | refine aw8 ?_); conv => whnf) | ((first | refine bT ?_ | refine bF ?_); conv => whnf) | (refine ACall.pure (sl1In_p _ _ _) rfl ?_; conv => whnf) | (refine AFCall.mk ⟨_, _, sl1In_p _ _ _, .inl rfl, ?_⟩; conv => whnf) | (exact rr) | (refine And.intro rfl ?_; conv => whnf) | (refine AB.mk (fun h => ?_) (fun h => ?_) <;> (conv => whnf)))
theorem sl7Key_p (x : Int) : PCall av 260 [pI x] (rB (betweenB x 0 9)) := by
  refine pcall_of av_ok Tryz.func260 rfl Tryz.call260 Tryz.ntmps260 (congrArg Array.toList Tryz.results260) fun S => ?_; conv => whnf
  repeat' (first | (refine aw0 ?_) | ((first | refine aw1 ?_ | refine aw2 ?_ | refine aw3 ?_ | refine aw4 ?_ | refine aw5 ?_ | refine aw6 ?_ | refine aw7 ?_ | refine aw8 ?_); conv => whnf) | ((first | refine bT ?_ | refine bF ?_); conv => whnf) | (refine ACall.pure (sl1In_p _ _ _) rfl ?_; conv => whnf) | (refine AFCall.mk ⟨_, _, sl1In_p _ _ _, .inl rfl, ?_⟩; conv => whnf) | (exact rr) | (refine And.intro rfl ?_; conv => whnf) | (refine AB.mk (fun h => ?_) (fun h => ?_) <;> (conv => whnf)))
theorem sl7Value_p (x : Int) : PCall av 262 [pI x] (rB (betweenB x 0 999)) := by
  refine pcall_of av_ok Tryz.func262 rfl Tryz.call262 Tryz.ntmps262 (congrArg Array.toList Tryz.results262) fun S => ?_; conv => whnf
  repeat' (first | (refine aw0 ?_) | ((first | refine aw1 ?_ | refine aw2 ?_ | refine aw3 ?_ | refine aw4 ?_ | refine aw5 ?_ | refine aw6 ?_ | refine aw7 ?_ | refine aw8 ?_); conv => whnf) | ((first | refine bT ?_ | refine bF ?_); conv => whnf) | (refine ACall.pure (sl1In_p _ _ _) rfl ?_; conv => whnf) | (refine AFCall.mk ⟨_, _, sl1In_p _ _ _, .inl rfl, ?_⟩; conv => whnf) | (exact rr) | (refine And.intro rfl ?_; conv => whnf) | (refine AB.mk (fun h => ?_) (fun h => ?_) <;> (conv => whnf)))
theorem sl7Id_p (x : Int) : PCall av 315 [pI x] (rB (betweenB x 1 20)) := by
  refine pcall_of av_ok Tryz.func315 rfl Tryz.call315 Tryz.ntmps315 (congrArg Array.toList Tryz.results315) fun S => ?_; conv => whnf
  repeat' (first | (refine aw0 ?_) | ((first | refine aw1 ?_ | refine aw2 ?_ | refine aw3 ?_ | refine aw4 ?_ | refine aw5 ?_ | refine aw6 ?_ | refine aw7 ?_ | refine aw8 ?_); conv => whnf) | ((first | refine bT ?_ | refine bF ?_); conv => whnf) | (refine ACall.pure (sl1In_p _ _ _) rfl ?_; conv => whnf) | (refine AFCall.mk ⟨_, _, sl1In_p _ _ _, .inl rfl, ?_⟩; conv => whnf) | (exact rr) | (refine And.intro rfl ?_; conv => whnf) | (refine AB.mk (fun h => ?_) (fun h => ?_) <;> (conv => whnf)))
theorem sl7Seq_p (x : Int) : PCall av 344 [pI x] (rB (betweenB x 1 2000)) := by
  refine pcall_of av_ok Tryz.func344 rfl Tryz.call344 Tryz.ntmps344 (congrArg Array.toList Tryz.results344) fun S => ?_; conv => whnf
  repeat' (first | (refine aw0 ?_) | ((first | refine aw1 ?_ | refine aw2 ?_ | refine aw3 ?_ | refine aw4 ?_ | refine aw5 ?_ | refine aw6 ?_ | refine aw7 ?_ | refine aw8 ?_); conv => whnf) | ((first | refine bT ?_ | refine bF ?_); conv => whnf) | (refine ACall.pure (sl1In_p _ _ _) rfl ?_; conv => whnf) | (refine AFCall.mk ⟨_, _, sl1In_p _ _ _, .inl rfl, ?_⟩; conv => whnf) | (exact rr) | (refine And.intro rfl ?_; conv => whnf) | (refine AB.mk (fun h => ?_) (fun h => ?_) <;> (conv => whnf)))
theorem sl7Index_p (x : Int) : PCall av 342 [pI x] (rB (betweenB x 1 2000)) := by
  refine pcall_of av_ok Tryz.func342 rfl Tryz.call342 Tryz.ntmps342 (congrArg Array.toList Tryz.results342) fun S => ?_; conv => whnf
  repeat' (first | (refine aw0 ?_) | ((first | refine aw1 ?_ | refine aw2 ?_ | refine aw3 ?_ | refine aw4 ?_ | refine aw5 ?_ | refine aw6 ?_ | refine aw7 ?_ | refine aw8 ?_); conv => whnf) | ((first | refine bT ?_ | refine bF ?_); conv => whnf) | (refine ACall.pure (sl1In_p _ _ _) rfl ?_; conv => whnf) | (refine AFCall.mk ⟨_, _, sl1In_p _ _ _, .inl rfl, ?_⟩; conv => whnf) | (exact rr) | (refine And.intro rfl ?_; conv => whnf) | (refine AB.mk (fun h => ?_) (fun h => ?_) <;> (conv => whnf)))
theorem sTimeOk_p (x : Int) : PCall av 182 [pI x] (rB (betweenB x 0 1000000)) := by
  refine pcall_of av_ok Tryz.func182 rfl Tryz.call182 Tryz.ntmps182 (congrArg Array.toList Tryz.results182) fun S => ?_; conv => whnf
  repeat' (first | (refine aw0 ?_) | ((first | refine aw1 ?_ | refine aw2 ?_ | refine aw3 ?_ | refine aw4 ?_ | refine aw5 ?_ | refine aw6 ?_ | refine aw7 ?_ | refine aw8 ?_); conv => whnf) | ((first | refine bT ?_ | refine bF ?_); conv => whnf) | (refine ACall.pure (sl1In_p _ _ _) rfl ?_; conv => whnf) | (refine AFCall.mk ⟨_, _, sl1In_p _ _ _, .inl rfl, ?_⟩; conv => whnf) | (exact rr) | (refine And.intro rfl ?_; conv => whnf) | (refine AB.mk (fun h => ?_) (fun h => ?_) <;> (conv => whnf)))
theorem sAskerOk_p (x : Int) : PCall av 343 [pI x] (rB (betweenB x 2 5)) := by
  refine pcall_of av_ok Tryz.func343 rfl Tryz.call343 Tryz.ntmps343 (congrArg Array.toList Tryz.results343) fun S => ?_; conv => whnf
  repeat' (first | (refine aw0 ?_) | ((first | refine aw1 ?_ | refine aw2 ?_ | refine aw3 ?_ | refine aw4 ?_ | refine aw5 ?_ | refine aw6 ?_ | refine aw7 ?_ | refine aw8 ?_); conv => whnf) | ((first | refine bT ?_ | refine bF ?_); conv => whnf) | (refine ACall.pure (sl1In_p _ _ _) rfl ?_; conv => whnf) | (refine AFCall.mk ⟨_, _, sl1In_p _ _ _, .inl rfl, ?_⟩; conv => whnf) | (exact rr) | (refine And.intro rfl ?_; conv => whnf) | (refine AB.mk (fun h => ?_) (fun h => ?_) <;> (conv => whnf)))
theorem sl16Time_p (x : Int) : PCall av 308 [pI x] (rB (betweenB x 0 1000000)) := by
  refine pcall_of av_ok Tryz.func308 rfl Tryz.call308 Tryz.ntmps308 (congrArg Array.toList Tryz.results308) fun S => ?_; conv => whnf
  repeat' (first | (refine aw0 ?_) | ((first | refine aw1 ?_ | refine aw2 ?_ | refine aw3 ?_ | refine aw4 ?_ | refine aw5 ?_ | refine aw6 ?_ | refine aw7 ?_ | refine aw8 ?_); conv => whnf) | ((first | refine bT ?_ | refine bF ?_); conv => whnf) | (refine ACall.pure (sl1In_p _ _ _) rfl ?_; conv => whnf) | (refine AFCall.mk ⟨_, _, sl1In_p _ _ _, .inl rfl, ?_⟩; conv => whnf) | (exact rr) | (refine And.intro rfl ?_; conv => whnf) | (refine AB.mk (fun h => ?_) (fun h => ?_) <;> (conv => whnf)))
theorem iOpOk_p (o : DOp) : PCall av 320 [.agg o.ds] (rB (opOk o)) := by
  refine pcall_of av_ok Tryz.func320 rfl Tryz.call320 Tryz.ntmps320 (congrArg Array.toList Tryz.results320) fun S => ?_; conv => whnf
  repeat' (first | (refine aw0 ?_) | ((first | refine aw1 ?_ | refine aw2 ?_ | refine aw3 ?_ | refine aw4 ?_ | refine aw5 ?_ | refine aw6 ?_ | refine aw7 ?_ | refine aw8 ?_); conv => whnf) | ((first | refine bT ?_ | refine bF ?_); conv => whnf) | (refine ACall.pure (ikeyOk_p _) rfl ?_; conv => whnf) | (refine AFCall.mk ⟨_, _, ikeyOk_p _, .inl rfl, ?_⟩; conv => whnf) | (refine ACall.pure (ivalueOk_p _) rfl ?_; conv => whnf) | (refine AFCall.mk ⟨_, _, ivalueOk_p _, .inl rfl, ?_⟩; conv => whnf) | (refine ACall.pure (iidOk_p _) rfl ?_; conv => whnf) | (refine AFCall.mk ⟨_, _, iidOk_p _, .inl rfl, ?_⟩; conv => whnf) | (refine ACall.pure (iTimeOk_p _) rfl ?_; conv => whnf) | (refine AFCall.mk ⟨_, _, iTimeOk_p _, .inl rfl, ?_⟩; conv => whnf) | (refine ACall.pure (ibetween_p _ _ _) rfl ?_; conv => whnf) | (refine AFCall.mk ⟨_, _, ibetween_p _ _ _, .inl rfl, ?_⟩; conv => whnf) | (exact rr) | (refine And.intro rfl ?_; conv => whnf) | (refine AB.mk (fun h => ?_) (fun h => ?_) <;> (conv => whnf)))
  all_goals simp_all [opOk]
theorem sOpOk_p (o : DOp) : PCall av 259 [.agg o.ds] (rB (opOk o)) := by
  refine pcall_of av_ok Tryz.func259 rfl Tryz.call259 Tryz.ntmps259 (congrArg Array.toList Tryz.results259) fun S => ?_; conv => whnf
  repeat' (first | (refine aw0 ?_) | ((first | refine aw1 ?_ | refine aw2 ?_ | refine aw3 ?_ | refine aw4 ?_ | refine aw5 ?_ | refine aw6 ?_ | refine aw7 ?_ | refine aw8 ?_); conv => whnf) | ((first | refine bT ?_ | refine bF ?_); conv => whnf) | (refine ACall.pure (sl7Key_p _) rfl ?_; conv => whnf) | (refine AFCall.mk ⟨_, _, sl7Key_p _, .inl rfl, ?_⟩; conv => whnf) | (refine ACall.pure (sl7Value_p _) rfl ?_; conv => whnf) | (refine AFCall.mk ⟨_, _, sl7Value_p _, .inl rfl, ?_⟩; conv => whnf) | (refine ACall.pure (sl7Id_p _) rfl ?_; conv => whnf) | (refine AFCall.mk ⟨_, _, sl7Id_p _, .inl rfl, ?_⟩; conv => whnf) | (refine ACall.pure (sTimeOk_p _) rfl ?_; conv => whnf) | (refine AFCall.mk ⟨_, _, sTimeOk_p _, .inl rfl, ?_⟩; conv => whnf) | (refine ACall.pure (sl1In_p _ _ _) rfl ?_; conv => whnf) | (refine AFCall.mk ⟨_, _, sl1In_p _ _ _, .inl rfl, ?_⟩; conv => whnf) | (exact rr) | (refine And.intro rfl ?_; conv => whnf) | (refine AB.mk (fun h => ?_) (fun h => ?_) <;> (conv => whnf)))
  all_goals simp_all [opOk]
theorem iEntryOk_p (e : DEntry) : PCall av 326 [.agg e.ds] (rB (entryOk e)) := by
  refine pcall_of av_ok Tryz.func326 rfl Tryz.call326 Tryz.ntmps326 (congrArg Array.toList Tryz.results326) fun S => ?_; conv => whnf
  repeat' (first | (refine aw0 ?_) | ((first | refine aw1 ?_ | refine aw2 ?_ | refine aw3 ?_ | refine aw4 ?_ | refine aw5 ?_ | refine aw6 ?_ | refine aw7 ?_ | refine aw8 ?_); conv => whnf) | (refine ACall.pure (iindexOk_p _) rfl ?_; conv => whnf) | (refine AFCall.mk ⟨_, _, iindexOk_p _, .inl rfl, ?_⟩; conv => whnf) | (refine ACall.pure (iTimeOk_p _) rfl ?_; conv => whnf) | (refine AFCall.mk ⟨_, _, iTimeOk_p _, .inl rfl, ?_⟩; conv => whnf) | (refine ACall.pure (iAskerOk_p _) rfl ?_; conv => whnf) | (refine AFCall.mk ⟨_, _, iAskerOk_p _, .inl rfl, ?_⟩; conv => whnf) | (refine ACall.pure (iseqOk_p _) rfl ?_; conv => whnf) | (refine AFCall.mk ⟨_, _, iseqOk_p _, .inl rfl, ?_⟩; conv => whnf) | (refine ACall.pure (iOpOk_p e.op) rfl ?_; conv => whnf) | (refine AFCall.mk ⟨_, _, iOpOk_p e.op, .inl rfl, ?_⟩; conv => whnf) | (exact rr) | (refine And.intro rfl ?_; conv => whnf) | (refine AB.mk (fun h => ?_) (fun h => ?_) <;> (conv => whnf)))
  all_goals simp [entryOk, *]
theorem sEntryOk_p (e : DEntry) : PCall av 295 [.agg e.ds] (rB (entryOk e)) := by
  refine pcall_of av_ok Tryz.func295 rfl Tryz.call295 Tryz.ntmps295 (congrArg Array.toList Tryz.results295) fun S => ?_; conv => whnf
  repeat' (first | (refine aw0 ?_) | ((first | refine aw1 ?_ | refine aw2 ?_ | refine aw3 ?_ | refine aw4 ?_ | refine aw5 ?_ | refine aw6 ?_ | refine aw7 ?_ | refine aw8 ?_); conv => whnf) | (refine ACall.pure (sl7Index_p _) rfl ?_; conv => whnf) | (refine AFCall.mk ⟨_, _, sl7Index_p _, .inl rfl, ?_⟩; conv => whnf) | (refine ACall.pure (sTimeOk_p _) rfl ?_; conv => whnf) | (refine AFCall.mk ⟨_, _, sTimeOk_p _, .inl rfl, ?_⟩; conv => whnf) | (refine ACall.pure (sAskerOk_p _) rfl ?_; conv => whnf) | (refine AFCall.mk ⟨_, _, sAskerOk_p _, .inl rfl, ?_⟩; conv => whnf) | (refine ACall.pure (sl7Seq_p _) rfl ?_; conv => whnf) | (refine AFCall.mk ⟨_, _, sl7Seq_p _, .inl rfl, ?_⟩; conv => whnf) | (refine ACall.pure (sOpOk_p e.op) rfl ?_; conv => whnf) | (refine AFCall.mk ⟨_, _, sOpOk_p e.op, .inl rfl, ?_⟩; conv => whnf) | (exact rr) | (refine And.intro rfl ?_; conv => whnf) | (refine AB.mk (fun h => ?_) (fun h => ?_) <;> (conv => whnf)))
  all_goals simp [entryOk, *]
end Go.Proofs.YtmgcnmdbhahhlaaGreat
namespace Go.Proofs.YtmgcnmdbhahhlaaGreat
open Go.ChangeShapes Go.WideShapes Go.RowKit

abbrev eB (b : Bool) : List AD := [dB b]
abbrev eIIw (l : List Int) : List AD := [dIs l]
structure DWrite where
  at_ : Int
  row : (List Int)
  deriving DecidableEq
def Rep.DWrite : Rep DWrite := Rep.via (fun x => (x.at_, x.row)) (Rep.pair (Rep.int .i64) (Rep.sl (Rep.int .i64)))
def DWrite.ds (x : DWrite) : List AD := [dI x.at_, .sl (x.row.map eI)]
theorem DWrite.enc : Enc Rep.DWrite DWrite.ds := Enc.via (f := fun x : DWrite => (x.at_, x.row)) (Enc.pair Enc.int (Enc.sl Enc.int))
theorem DWrite.encF : EncF Rep.DWrite DWrite.ds := EncF.via (f := fun x : DWrite => (x.at_, x.row)) (EncF.pair EncF.int (EncF.sl EncF.int))
def DWrite.small (n : Nat) (x : DWrite) : Prop := x.row.length ≤ n
structure DDisk where
  kept : (List (List Int))
  wait : (List DWrite)
  deriving DecidableEq
def Rep.DDisk : Rep DDisk := Rep.via (fun x => (x.kept, x.wait)) (Rep.pair (Rep.sl (Rep.sl (Rep.int .i64))) (Rep.sl Rep.DWrite))
def DDisk.ds (x : DDisk) : List AD := [.sl (x.kept.map eIIw), .sl (x.wait.map DWrite.ds)]
theorem DDisk.enc : Enc Rep.DDisk DDisk.ds := Enc.via (f := fun x : DDisk => (x.kept, x.wait)) (Enc.pair (Enc.sl (Enc.sl Enc.int)) (Enc.sl DWrite.enc))
theorem DDisk.encF : EncF Rep.DDisk DDisk.ds := EncF.via (f := fun x : DDisk => (x.kept, x.wait)) (EncF.pair (EncF.sl (EncF.sl EncF.int)) (EncF.sl DWrite.encF))
def DDisk.small (n : Nat) (x : DDisk) : Prop := x.kept.length ≤ n ∧ (∀ y ∈ x.kept, y.length ≤ n) ∧ x.wait.length ≤ n ∧ (∀ y ∈ x.wait, DWrite.small n y)
structure DTwo where
  a : DDisk
  b : DDisk
  deriving DecidableEq
def Rep.DTwo : Rep DTwo := Rep.via (fun x => (x.a, x.b)) (Rep.pair Rep.DDisk Rep.DDisk)
def DTwo.ds (x : DTwo) : List AD := [.sl (x.a.kept.map eIIw), .sl (x.a.wait.map DWrite.ds), .sl (x.b.kept.map eIIw), .sl (x.b.wait.map DWrite.ds)]
theorem DTwo.enc : Enc Rep.DTwo DTwo.ds := Enc.via (f := fun x : DTwo => (x.a, x.b)) (Enc.pair DDisk.enc DDisk.enc)
theorem DTwo.encF : EncF Rep.DTwo DTwo.ds := EncF.via (f := fun x : DTwo => (x.a, x.b)) (EncF.pair DDisk.encF DDisk.encF)
def DTwo.small (n : Nat) (x : DTwo) : Prop := DDisk.small n x.a ∧ DDisk.small n x.b
structure DMark where
  client : Int
  seq : Int
  index : Int
  deriving DecidableEq
def Rep.DMark : Rep DMark := Rep.via (fun x => (x.client, x.seq, x.index)) (Rep.pair (Rep.int .i64) (Rep.pair (Rep.int .i64) (Rep.int .i64)))
def DMark.ds (x : DMark) : List AD := [dI x.client, dI x.seq, dI x.index]
theorem DMark.enc : Enc Rep.DMark DMark.ds := Enc.via (f := fun x : DMark => (x.client, x.seq, x.index)) (Enc.pair Enc.int (Enc.pair Enc.int Enc.int))
theorem DMark.encF : EncF Rep.DMark DMark.ds := EncF.via (f := fun x : DMark => (x.client, x.seq, x.index)) (EncF.pair EncF.int (EncF.pair EncF.int EncF.int))
structure DHead where
  num : Int
  base : Int
  time : Int
  seen : (List DMark)
  deriving DecidableEq
def Rep.DHead : Rep DHead := Rep.via (fun x => (x.num, x.base, x.time, x.seen)) (Rep.pair (Rep.int .i64) (Rep.pair (Rep.int .i64) (Rep.pair (Rep.int .i64) (Rep.sl Rep.DMark))))
def DHead.ds (x : DHead) : List AD := [dI x.num, dI x.base, dI x.time, .sl (x.seen.map DMark.ds)]
theorem DHead.enc : Enc Rep.DHead DHead.ds := Enc.via (f := fun x : DHead => (x.num, x.base, x.time, x.seen)) (Enc.pair Enc.int (Enc.pair Enc.int (Enc.pair Enc.int (Enc.sl DMark.enc))))
theorem DHead.encF : EncF Rep.DHead DHead.ds := EncF.via (f := fun x : DHead => (x.num, x.base, x.time, x.seen)) (EncF.pair EncF.int (EncF.pair EncF.int (EncF.pair EncF.int (EncF.sl DMark.encF))))
def DHead.small (n : Nat) (x : DHead) : Prop := x.seen.length ≤ n
theorem DOp.enc : Enc Rep.DOp DOp.ds := Enc.via (f := fun x : DOp => (x.kind, x.a, x.b, x.c, x.d)) (Enc.pair Enc.int (Enc.pair Enc.int (Enc.pair Enc.int (Enc.pair Enc.int Enc.int))))
theorem DOp.encF : EncF Rep.DOp DOp.ds := EncF.via (f := fun x : DOp => (x.kind, x.a, x.b, x.c, x.d)) (EncF.pair EncF.int (EncF.pair EncF.int (EncF.pair EncF.int (EncF.pair EncF.int EncF.int))))
theorem DEntry.enc : Enc Rep.DEntry DEntry.ds := Enc.via (f := fun x : DEntry => (x.index, x.time, x.client, x.seq, x.op)) (Enc.pair Enc.int (Enc.pair Enc.int (Enc.pair Enc.int (Enc.pair Enc.int DOp.enc))))
theorem DEntry.encF : EncF Rep.DEntry DEntry.ds := EncF.via (f := fun x : DEntry => (x.index, x.time, x.client, x.seq, x.op)) (EncF.pair EncF.int (EncF.pair EncF.int (EncF.pair EncF.int (EncF.pair EncF.int DOp.encF))))
structure DBook where
  base : Int
  time : Int
  entries : (List DEntry)
  deriving DecidableEq
def Rep.DBook : Rep DBook := Rep.via (fun x => (x.base, x.time, x.entries)) (Rep.pair (Rep.int .i64) (Rep.pair (Rep.int .i64) (Rep.sl Rep.DEntry)))
def DBook.ds (x : DBook) : List AD := [dI x.base, dI x.time, .sl (x.entries.map DEntry.ds)]
theorem DBook.enc : Enc Rep.DBook DBook.ds := Enc.via (f := fun x : DBook => (x.base, x.time, x.entries)) (Enc.pair Enc.int (Enc.pair Enc.int (Enc.sl DEntry.enc)))
theorem DBook.encF : EncF Rep.DBook DBook.ds := EncF.via (f := fun x : DBook => (x.base, x.time, x.entries)) (EncF.pair EncF.int (EncF.pair EncF.int (EncF.sl DEntry.encF)))
def DBook.small (n : Nat) (x : DBook) : Prop := x.entries.length ≤ n
structure DAck where
  client : Int
  seq : Int
  index : Int
  last : Int
  deriving DecidableEq
def Rep.DAck : Rep DAck := Rep.via (fun x => (x.client, x.seq, x.index, x.last)) (Rep.pair (Rep.int .i64) (Rep.pair (Rep.int .i64) (Rep.pair (Rep.int .i64) (Rep.int .i64))))
def DAck.ds (x : DAck) : List AD := [dI x.client, dI x.seq, dI x.index, dI x.last]
theorem DAck.enc : Enc Rep.DAck DAck.ds := Enc.via (f := fun x : DAck => (x.client, x.seq, x.index, x.last)) (Enc.pair Enc.int (Enc.pair Enc.int (Enc.pair Enc.int Enc.int)))
theorem DAck.encF : EncF Rep.DAck DAck.ds := EncF.via (f := fun x : DAck => (x.client, x.seq, x.index, x.last)) (EncF.pair EncF.int (EncF.pair EncF.int (EncF.pair EncF.int EncF.int)))
structure DLogNode where
  two : DTwo
  head : DHead
  nxt : DHead
  more : Bool
  book : DBook
  seen : (List DMark)
  durable : Int
  owe : (List DAck)
  deriving DecidableEq
def Rep.DLogNode : Rep DLogNode := Rep.via (fun x => (x.two, x.head, x.nxt, x.more, x.book, x.seen, x.durable, x.owe)) (Rep.pair Rep.DTwo (Rep.pair Rep.DHead (Rep.pair Rep.DHead (Rep.pair Rep.bool (Rep.pair Rep.DBook (Rep.pair (Rep.sl Rep.DMark) (Rep.pair (Rep.int .i64) (Rep.sl Rep.DAck))))))))
def DLogNode.ds (x : DLogNode) : List AD := [.sl (x.two.a.kept.map eIIw), .sl (x.two.a.wait.map DWrite.ds), .sl (x.two.b.kept.map eIIw), .sl (x.two.b.wait.map DWrite.ds), dI x.head.num, dI x.head.base, dI x.head.time, .sl (x.head.seen.map DMark.ds), dI x.nxt.num, dI x.nxt.base, dI x.nxt.time, .sl (x.nxt.seen.map DMark.ds), dB x.more, dI x.book.base, dI x.book.time, .sl (x.book.entries.map DEntry.ds), .sl (x.seen.map DMark.ds), dI x.durable, .sl (x.owe.map DAck.ds)]
theorem DLogNode.enc : Enc Rep.DLogNode DLogNode.ds := Enc.via (f := fun x : DLogNode => (x.two, x.head, x.nxt, x.more, x.book, x.seen, x.durable, x.owe)) (Enc.pair DTwo.enc (Enc.pair DHead.enc (Enc.pair DHead.enc (Enc.pair Enc.bool (Enc.pair DBook.enc (Enc.pair (Enc.sl DMark.enc) (Enc.pair Enc.int (Enc.sl DAck.enc))))))))
theorem DLogNode.encF : EncF Rep.DLogNode DLogNode.ds := EncF.via (f := fun x : DLogNode => (x.two, x.head, x.nxt, x.more, x.book, x.seen, x.durable, x.owe)) (EncF.pair DTwo.encF (EncF.pair DHead.encF (EncF.pair DHead.encF (EncF.pair EncF.bool (EncF.pair DBook.encF (EncF.pair (EncF.sl DMark.encF) (EncF.pair EncF.int (EncF.sl DAck.encF))))))))
def DLogNode.small (n : Nat) (x : DLogNode) : Prop := DTwo.small n x.two ∧ DHead.small n x.head ∧ DHead.small n x.nxt ∧ DBook.small n x.book ∧ x.seen.length ≤ n ∧ x.owe.length ≤ n
structure DPair where
  key : Int
  value : Int
  deriving DecidableEq
def Rep.DPair : Rep DPair := Rep.via (fun x => (x.key, x.value)) (Rep.pair (Rep.int .i64) (Rep.int .i64))
def DPair.ds (x : DPair) : List AD := [dI x.key, dI x.value]
theorem DPair.enc : Enc Rep.DPair DPair.ds := Enc.via (f := fun x : DPair => (x.key, x.value)) (Enc.pair Enc.int Enc.int)
theorem DPair.encF : EncF Rep.DPair DPair.ds := EncF.via (f := fun x : DPair => (x.key, x.value)) (EncF.pair EncF.int EncF.int)
structure DJob where
  id : Int
  due : Int
  key : Int
  value : Int
  fired : Int
  deriving DecidableEq
def Rep.DJob : Rep DJob := Rep.via (fun x => (x.id, x.due, x.key, x.value, x.fired)) (Rep.pair (Rep.int .i64) (Rep.pair (Rep.int .i64) (Rep.pair (Rep.int .i64) (Rep.pair (Rep.int .i64) (Rep.int .i64)))))
def DJob.ds (x : DJob) : List AD := [dI x.id, dI x.due, dI x.key, dI x.value, dI x.fired]
theorem DJob.enc : Enc Rep.DJob DJob.ds := Enc.via (f := fun x : DJob => (x.id, x.due, x.key, x.value, x.fired)) (Enc.pair Enc.int (Enc.pair Enc.int (Enc.pair Enc.int (Enc.pair Enc.int Enc.int))))
theorem DJob.encF : EncF Rep.DJob DJob.ds := EncF.via (f := fun x : DJob => (x.id, x.due, x.key, x.value, x.fired)) (EncF.pair EncF.int (EncF.pair EncF.int (EncF.pair EncF.int (EncF.pair EncF.int EncF.int))))
structure DLease where
  holder : Int
  epoch : Int
  til : Int
  deriving DecidableEq
def Rep.DLease : Rep DLease := Rep.via (fun x => (x.holder, x.epoch, x.til)) (Rep.pair (Rep.int .i64) (Rep.pair (Rep.int .i64) (Rep.int .i64)))
def DLease.ds (x : DLease) : List AD := [dI x.holder, dI x.epoch, dI x.til]
theorem DLease.enc : Enc Rep.DLease DLease.ds := Enc.via (f := fun x : DLease => (x.holder, x.epoch, x.til)) (Enc.pair Enc.int (Enc.pair Enc.int Enc.int))
theorem DLease.encF : EncF Rep.DLease DLease.ds := EncF.via (f := fun x : DLease => (x.holder, x.epoch, x.til)) (EncF.pair EncF.int (EncF.pair EncF.int EncF.int))
structure DState where
  index : Int
  time : Int
  pairs : (List DPair)
  jobs : (List DJob)
  lease : DLease
  deriving DecidableEq
def Rep.DState : Rep DState := Rep.via (fun x => (x.index, x.time, x.pairs, x.jobs, x.lease)) (Rep.pair (Rep.int .i64) (Rep.pair (Rep.int .i64) (Rep.pair (Rep.sl Rep.DPair) (Rep.pair (Rep.sl Rep.DJob) Rep.DLease))))
def DState.ds (x : DState) : List AD := [dI x.index, dI x.time, .sl (x.pairs.map DPair.ds), .sl (x.jobs.map DJob.ds), dI x.lease.holder, dI x.lease.epoch, dI x.lease.til]
theorem DState.enc : Enc Rep.DState DState.ds := Enc.via (f := fun x : DState => (x.index, x.time, x.pairs, x.jobs, x.lease)) (Enc.pair Enc.int (Enc.pair Enc.int (Enc.pair (Enc.sl DPair.enc) (Enc.pair (Enc.sl DJob.enc) DLease.enc))))
theorem DState.encF : EncF Rep.DState DState.ds := EncF.via (f := fun x : DState => (x.index, x.time, x.pairs, x.jobs, x.lease)) (EncF.pair EncF.int (EncF.pair EncF.int (EncF.pair (EncF.sl DPair.encF) (EncF.pair (EncF.sl DJob.encF) DLease.encF))))
def DState.small (n : Nat) (x : DState) : Prop := x.pairs.length ≤ n ∧ x.jobs.length ≤ n
structure DStore where
  disk : DDisk
  state : DState
  num : Int
  last : Int
  busy : Int
  deriving DecidableEq
def Rep.DStore : Rep DStore := Rep.via (fun x => (x.disk, x.state, x.num, x.last, x.busy)) (Rep.pair Rep.DDisk (Rep.pair Rep.DState (Rep.pair (Rep.int .i64) (Rep.pair (Rep.int .i64) (Rep.int .i64)))))
def DStore.ds (x : DStore) : List AD := [.sl (x.disk.kept.map eIIw), .sl (x.disk.wait.map DWrite.ds), dI x.state.index, dI x.state.time, .sl (x.state.pairs.map DPair.ds), .sl (x.state.jobs.map DJob.ds), dI x.state.lease.holder, dI x.state.lease.epoch, dI x.state.lease.til, dI x.num, dI x.last, dI x.busy]
theorem DStore.enc : Enc Rep.DStore DStore.ds := Enc.via (f := fun x : DStore => (x.disk, x.state, x.num, x.last, x.busy)) (Enc.pair DDisk.enc (Enc.pair DState.enc (Enc.pair Enc.int (Enc.pair Enc.int Enc.int))))
theorem DStore.encF : EncF Rep.DStore DStore.ds := EncF.via (f := fun x : DStore => (x.disk, x.state, x.num, x.last, x.busy)) (EncF.pair DDisk.encF (EncF.pair DState.encF (EncF.pair EncF.int (EncF.pair EncF.int EncF.int))))
def DStore.small (n : Nat) (x : DStore) : Prop := DDisk.small n x.disk ∧ DState.small n x.state
structure DDue where
  id : Int
  due : Int
  deriving DecidableEq
def Rep.DDue : Rep DDue := Rep.via (fun x => (x.id, x.due)) (Rep.pair (Rep.int .i64) (Rep.int .i64))
def DDue.ds (x : DDue) : List AD := [dI x.id, dI x.due]
theorem DDue.enc : Enc Rep.DDue DDue.ds := Enc.via (f := fun x : DDue => (x.id, x.due)) (Enc.pair Enc.int Enc.int)
theorem DDue.encF : EncF Rep.DDue DDue.ds := EncF.via (f := fun x : DDue => (x.id, x.due)) (EncF.pair EncF.int EncF.int)
structure DJobs where
  index : Int
  time : Int
  holder : Int
  epoch : Int
  til : Int
  opens : (List DDue)
  deriving DecidableEq
def Rep.DJobs : Rep DJobs := Rep.via (fun x => (x.index, x.time, x.holder, x.epoch, x.til, x.opens)) (Rep.pair (Rep.int .i64) (Rep.pair (Rep.int .i64) (Rep.pair (Rep.int .i64) (Rep.pair (Rep.int .i64) (Rep.pair (Rep.int .i64) (Rep.sl Rep.DDue))))))
def DJobs.ds (x : DJobs) : List AD := [dI x.index, dI x.time, dI x.holder, dI x.epoch, dI x.til, .sl (x.opens.map DDue.ds)]
theorem DJobs.enc : Enc Rep.DJobs DJobs.ds := Enc.via (f := fun x : DJobs => (x.index, x.time, x.holder, x.epoch, x.til, x.opens)) (Enc.pair Enc.int (Enc.pair Enc.int (Enc.pair Enc.int (Enc.pair Enc.int (Enc.pair Enc.int (Enc.sl DDue.enc))))))
theorem DJobs.encF : EncF Rep.DJobs DJobs.ds := EncF.via (f := fun x : DJobs => (x.index, x.time, x.holder, x.epoch, x.til, x.opens)) (EncF.pair EncF.int (EncF.pair EncF.int (EncF.pair EncF.int (EncF.pair EncF.int (EncF.pair EncF.int (EncF.sl DDue.encF))))))
def DJobs.small (n : Nat) (x : DJobs) : Prop := x.opens.length ≤ n
structure DView where
  jobs : DJobs
  deriving DecidableEq
def Rep.DView : Rep DView := Rep.via (fun x => x.jobs) Rep.DJobs
def DView.ds (x : DView) : List AD := [dI x.jobs.index, dI x.jobs.time, dI x.jobs.holder, dI x.jobs.epoch, dI x.jobs.til, .sl (x.jobs.opens.map DDue.ds)]
theorem DView.enc : Enc Rep.DView DView.ds := Enc.via (f := fun x : DView => x.jobs) DJobs.enc
theorem DView.encF : EncF Rep.DView DView.ds := EncF.via (f := fun x : DView => x.jobs) DJobs.encF
def DView.small (n : Nat) (x : DView) : Prop := DJobs.small n x.jobs
structure DSched where
  id : Int
  seq : Int
  view : DView
  busy : Bool
  op : DOp
  index : Int
  deriving DecidableEq
def Rep.DSched : Rep DSched := Rep.via (fun x => (x.id, x.seq, x.view, x.busy, x.op, x.index)) (Rep.pair (Rep.int .i64) (Rep.pair (Rep.int .i64) (Rep.pair Rep.DView (Rep.pair Rep.bool (Rep.pair Rep.DOp (Rep.int .i64))))))
def DSched.ds (x : DSched) : List AD := [dI x.id, dI x.seq, dI x.view.jobs.index, dI x.view.jobs.time, dI x.view.jobs.holder, dI x.view.jobs.epoch, dI x.view.jobs.til, .sl (x.view.jobs.opens.map DDue.ds), dB x.busy, dI x.op.kind, dI x.op.a, dI x.op.b, dI x.op.c, dI x.op.d, dI x.index]
theorem DSched.enc : Enc Rep.DSched DSched.ds := Enc.via (f := fun x : DSched => (x.id, x.seq, x.view, x.busy, x.op, x.index)) (Enc.pair Enc.int (Enc.pair Enc.int (Enc.pair DView.enc (Enc.pair Enc.bool (Enc.pair DOp.enc Enc.int)))))
theorem DSched.encF : EncF Rep.DSched DSched.ds := EncF.via (f := fun x : DSched => (x.id, x.seq, x.view, x.busy, x.op, x.index)) (EncF.pair EncF.int (EncF.pair EncF.int (EncF.pair DView.encF (EncF.pair EncF.bool (EncF.pair DOp.encF EncF.int)))))
def DSched.small (n : Nat) (x : DSched) : Prop := DView.small n x.view
theorem DWant.enc : Enc Rep.DWant DWant.ds := Enc.via (f := fun x : DWant => (x.kind, x.op, x.key)) (Enc.pair Enc.int (Enc.pair DOp.enc Enc.int))
theorem DWant.encF : EncF Rep.DWant DWant.ds := EncF.via (f := fun x : DWant => (x.kind, x.op, x.key)) (EncF.pair EncF.int (EncF.pair DOp.encF EncF.int))
structure DGot where
  seq : Int
  index : Int
  has : Int
  value : Int
  deriving DecidableEq
def Rep.DGot : Rep DGot := Rep.via (fun x => (x.seq, x.index, x.has, x.value)) (Rep.pair (Rep.int .i64) (Rep.pair (Rep.int .i64) (Rep.pair (Rep.int .i64) (Rep.int .i64))))
def DGot.ds (x : DGot) : List AD := [dI x.seq, dI x.index, dI x.has, dI x.value]
theorem DGot.enc : Enc Rep.DGot DGot.ds := Enc.via (f := fun x : DGot => (x.seq, x.index, x.has, x.value)) (Enc.pair Enc.int (Enc.pair Enc.int (Enc.pair Enc.int Enc.int)))
theorem DGot.encF : EncF Rep.DGot DGot.ds := EncF.via (f := fun x : DGot => (x.seq, x.index, x.has, x.value)) (EncF.pair EncF.int (EncF.pair EncF.int (EncF.pair EncF.int EncF.int)))
structure DClient where
  id : Int
  todo : (List DWant)
  gots : (List DGot)
  last : Int
  deriving DecidableEq
def Rep.DClient : Rep DClient := Rep.via (fun x => (x.id, x.todo, x.gots, x.last)) (Rep.pair (Rep.int .i64) (Rep.pair (Rep.sl Rep.DWant) (Rep.pair (Rep.sl Rep.DGot) (Rep.int .i64))))
def DClient.ds (x : DClient) : List AD := [dI x.id, .sl (x.todo.map DWant.ds), .sl (x.gots.map DGot.ds), dI x.last]
theorem DClient.enc : Enc Rep.DClient DClient.ds := Enc.via (f := fun x : DClient => (x.id, x.todo, x.gots, x.last)) (Enc.pair Enc.int (Enc.pair (Enc.sl DWant.enc) (Enc.pair (Enc.sl DGot.enc) Enc.int)))
theorem DClient.encF : EncF Rep.DClient DClient.ds := EncF.via (f := fun x : DClient => (x.id, x.todo, x.gots, x.last)) (EncF.pair EncF.int (EncF.pair (EncF.sl DWant.encF) (EncF.pair (EncF.sl DGot.encF) EncF.int)))
def DClient.small (n : Nat) (x : DClient) : Prop := x.todo.length ≤ n ∧ x.gots.length ≤ n
def DMsg.ds (x : DMsg) : List AD := [dI x.frm, dI x.to_, .sl (x.row.map eI)]
theorem DMsg.enc : Enc Rep.DMsg DMsg.ds := Enc.via (f := fun x : DMsg => (x.frm, x.to_, x.row)) (Enc.pair Enc.int (Enc.pair Enc.int (Enc.sl Enc.int)))
theorem DMsg.encF : EncF Rep.DMsg DMsg.ds := EncF.via (f := fun x : DMsg => (x.frm, x.to_, x.row)) (EncF.pair EncF.int (EncF.pair EncF.int (EncF.sl EncF.int)))
def DMsg.small (n : Nat) (x : DMsg) : Prop := x.row.length ≤ n
def DLink.ds (x : DLink) : List AD := [dI x.a, dI x.b]
theorem DLink.enc : Enc Rep.DLink DLink.ds := Enc.via (f := fun x : DLink => (x.a, x.b)) (Enc.pair Enc.int Enc.int)
theorem DLink.encF : EncF Rep.DLink DLink.ds := EncF.via (f := fun x : DLink => (x.a, x.b)) (EncF.pair EncF.int EncF.int)
def DNet.ds (x : DNet) : List AD := [.sl (x.flight.map DMsg.ds), .sl (x.cuts.map DLink.ds)]
theorem DNet.enc : Enc Rep.DNet DNet.ds := Enc.via (f := fun x : DNet => (x.flight, x.cuts)) (Enc.pair (Enc.sl DMsg.enc) (Enc.sl DLink.enc))
theorem DNet.encF : EncF Rep.DNet DNet.ds := EncF.via (f := fun x : DNet => (x.flight, x.cuts)) (EncF.pair (EncF.sl DMsg.encF) (EncF.sl DLink.encF))
def DNet.small (n : Nat) (x : DNet) : Prop := x.flight.length ≤ n ∧ (∀ y ∈ x.flight, DMsg.small n y) ∧ x.cuts.length ≤ n
structure DWorld where
  log : DLogNode
  store : DStore
  left : DSched
  right : DSched
  ann : DClient
  bob : DClient
  net : DNet
  clocks : (List Int)
  up : (List Bool)
  deriving DecidableEq
def Rep.DWorld : Rep DWorld := Rep.via (fun x => (x.log, x.store, x.left, x.right, x.ann, x.bob, x.net, x.clocks, x.up)) (Rep.pair Rep.DLogNode (Rep.pair Rep.DStore (Rep.pair Rep.DSched (Rep.pair Rep.DSched (Rep.pair Rep.DClient (Rep.pair Rep.DClient (Rep.pair Rep.DNet (Rep.pair (Rep.sl (Rep.int .i64)) (Rep.sl Rep.bool)))))))))
def DWorld.ds (x : DWorld) : List AD := [.sl (x.log.two.a.kept.map eIIw), .sl (x.log.two.a.wait.map DWrite.ds), .sl (x.log.two.b.kept.map eIIw), .sl (x.log.two.b.wait.map DWrite.ds), dI x.log.head.num, dI x.log.head.base, dI x.log.head.time, .sl (x.log.head.seen.map DMark.ds), dI x.log.nxt.num, dI x.log.nxt.base, dI x.log.nxt.time, .sl (x.log.nxt.seen.map DMark.ds), dB x.log.more, dI x.log.book.base, dI x.log.book.time, .sl (x.log.book.entries.map DEntry.ds), .sl (x.log.seen.map DMark.ds), dI x.log.durable, .sl (x.log.owe.map DAck.ds), .sl (x.store.disk.kept.map eIIw), .sl (x.store.disk.wait.map DWrite.ds), dI x.store.state.index, dI x.store.state.time, .sl (x.store.state.pairs.map DPair.ds), .sl (x.store.state.jobs.map DJob.ds), dI x.store.state.lease.holder, dI x.store.state.lease.epoch, dI x.store.state.lease.til, dI x.store.num, dI x.store.last, dI x.store.busy, dI x.left.id, dI x.left.seq, dI x.left.view.jobs.index, dI x.left.view.jobs.time, dI x.left.view.jobs.holder, dI x.left.view.jobs.epoch, dI x.left.view.jobs.til, .sl (x.left.view.jobs.opens.map DDue.ds), dB x.left.busy, dI x.left.op.kind, dI x.left.op.a, dI x.left.op.b, dI x.left.op.c, dI x.left.op.d, dI x.left.index, dI x.right.id, dI x.right.seq, dI x.right.view.jobs.index, dI x.right.view.jobs.time, dI x.right.view.jobs.holder, dI x.right.view.jobs.epoch, dI x.right.view.jobs.til, .sl (x.right.view.jobs.opens.map DDue.ds), dB x.right.busy, dI x.right.op.kind, dI x.right.op.a, dI x.right.op.b, dI x.right.op.c, dI x.right.op.d, dI x.right.index, dI x.ann.id, .sl (x.ann.todo.map DWant.ds), .sl (x.ann.gots.map DGot.ds), dI x.ann.last, dI x.bob.id, .sl (x.bob.todo.map DWant.ds), .sl (x.bob.gots.map DGot.ds), dI x.bob.last, .sl (x.net.flight.map DMsg.ds), .sl (x.net.cuts.map DLink.ds), .sl (x.clocks.map eI), .sl (x.up.map eB)]
theorem DWorld.enc : Enc Rep.DWorld DWorld.ds := Enc.via (f := fun x : DWorld => (x.log, x.store, x.left, x.right, x.ann, x.bob, x.net, x.clocks, x.up)) (Enc.pair DLogNode.enc (Enc.pair DStore.enc (Enc.pair DSched.enc (Enc.pair DSched.enc (Enc.pair DClient.enc (Enc.pair DClient.enc (Enc.pair DNet.enc (Enc.pair (Enc.sl Enc.int) (Enc.sl Enc.bool)))))))))
theorem DWorld.encF : EncF Rep.DWorld DWorld.ds := EncF.via (f := fun x : DWorld => (x.log, x.store, x.left, x.right, x.ann, x.bob, x.net, x.clocks, x.up)) (EncF.pair DLogNode.encF (EncF.pair DStore.encF (EncF.pair DSched.encF (EncF.pair DSched.encF (EncF.pair DClient.encF (EncF.pair DClient.encF (EncF.pair DNet.encF (EncF.pair (EncF.sl EncF.int) (EncF.sl EncF.bool)))))))))
def DWorld.small (n : Nat) (x : DWorld) : Prop := DLogNode.small n x.log ∧ DStore.small n x.store ∧ DSched.small n x.left ∧ DSched.small n x.right ∧ DClient.small n x.ann ∧ DClient.small n x.bob ∧ DNet.small n x.net ∧ x.clocks.length ≤ n ∧ x.up.length ≤ n
end Go.Proofs.YtmgcnmdbhahhlaaGreat
namespace Go.Proofs.YtmgcnmdbhahhlaaGreat
open Go.ChangeShapes Go.WideShapes Go.RowKit

section
variable {α : Type}
/-- By index. -/
def allN (n : Nat) (ok : Nat → Bool) : Bool := (List.range n).all ok
theorem allN_no {n k : Nat} {ok : Nat → Bool} (hk : k < n) (h : ok k = false) : allN n ok = false := by
  rw [← Bool.not_eq_true]
  intro hall
  have := List.all_eq_true.1 hall k (List.mem_range.2 hk)
  rw [h] at this
  cases this
theorem allN_yes {n : Nat} {ok : Nat → Bool} (h : ∀ k, k < n → ok k = true) : allN n ok = true :=
  List.all_eq_true.2 fun k hk => h k (List.mem_range.1 hk)
theorem allN_get {n : Nat} {ok : Nat → Bool} (h : allN n ok = true) {k : Nat} (hk : k < n) : ok k = true := List.all_eq_true.1 h k (List.mem_range.2 hk)
theorem all_no {l : List α} {p : α → Bool} {k : Nat} (hk : k < l.length) (h : p l[k] = false) : l.all p = false := by
  rw [← Bool.not_eq_true]
  intro hall
  have := List.all_eq_true.1 hall _ (List.getElem_mem hk)
  rw [h] at this
  cases this
theorem all_yes {l : List α} {p : α → Bool} (h : ∀ (k : Nat) (hk : k < l.length), p l[k] = true) : l.all p = true := by
  refine List.all_eq_true.2 fun x hx => ?_
  obtain ⟨k, hk, rfl⟩ := List.getElem_of_mem hx
  exact h k hk
theorem all_get {l : List α} {p : α → Bool} (h : l.all p = true) {k : Nat} (hk : k < l.length) : p l[k] = true := List.all_eq_true.1 h _ (List.getElem_mem hk)
/-- Each with the one before it. -/
def adjB (Q : α → α → Bool) : List α → Bool
  | x :: y :: r => Q x y && adjB Q (y :: r)
  | _ => true
theorem adjB_get {Q : α → α → Bool} : ∀ {l : List α}, adjB Q l = true → ∀ {k : Nat} (hk : k + 1 < l.length), Q (l[k]'(by omega)) l[k + 1] = true
  | x :: y :: r, h, k, hk => by
    simp only [adjB, Bool.and_eq_true] at h
    cases k with
    | zero => exact h.1
    | succ k => exact adjB_get (l := y :: r) h.2 (k := k) (by simpa using hk)
  | [], _, k, hk => by simp at hk
  | [x], _, k, hk => by simp at hk
theorem adjB_yes {Q : α → α → Bool} : ∀ {l : List α}, (∀ (k : Nat) (hk : k + 1 < l.length), Q (l[k]'(by omega)) l[k + 1] = true) → adjB Q l = true
  | x :: y :: r, h => by
    simp only [adjB, Bool.and_eq_true]
    refine ⟨h 0 (by simp), adjB_yes (l := y :: r) fun k hk => ?_⟩
    have := h (k + 1) (by simpa using hk)
    simpa using this
  | [], _ => rfl
  | [x], _ => rfl
theorem adjB_no {Q : α → α → Bool} {l : List α} {k : Nat} (hk : k + 1 < l.length) (h : Q (l[k]'(by omega)) l[k + 1] = false) : adjB Q l = false := by
  rw [← Bool.not_eq_true]
  intro hall
  rw [adjB_get hall hk] at h
  cases h
/-- No two are alike. -/
def apartAll (R : α → α → Bool) : List α → Bool
  | [] => true
  | x :: r => r.all (fun y => !R x y) && apartAll R r
theorem apartAll_get {R : α → α → Bool} : ∀ {l : List α}, apartAll R l = true → ∀ {j k : Nat} (hj : j < k) (hk : k < l.length), R (l[j]'(by omega)) l[k] = false
  | x :: r, h, j, k, hj, hk => by
    simp only [apartAll, Bool.and_eq_true] at h
    match j, k, hj with
    | 0, k + 1, _ =>
      have := all_get h.1 (k := k) (by simpa using hk)
      simpa using this
    | j + 1, k + 1, hj => exact apartAll_get (l := r) h.2 (j := j) (k := k) (by omega) (by simpa using hk)
  | [], _, j, k, _, hk => by simp at hk
theorem apartAll_yes {R : α → α → Bool} : ∀ {l : List α}, (∀ (j k : Nat) (hj : j < k) (hk : k < l.length), R (l[j]'(by omega)) l[k] = false) → apartAll R l = true
  | [], _ => rfl
  | x :: r, h => by
    simp only [apartAll, Bool.and_eq_true]
    refine ⟨all_yes fun k hk => ?_, apartAll_yes fun j k hj hk => ?_⟩
    · have := h 0 (k + 1) (by omega) (by simpa using hk)
      simpa using this
    · have := h (j + 1) (k + 1) (by omega) (by simpa using hk)
      simpa using this
theorem apartAll_no {R : α → α → Bool} {l : List α} {j k : Nat} (hj : j < k) (hk : k < l.length) (h : R (l[j]'(by omega)) l[k] = true) : apartAll R l = false := by
  rw [← Bool.not_eq_true]
  intro hall
  rw [apartAll_get hall hj hk] at h
  cases h
end

def tOk (t : Int) : Bool := betweenB t 0 1000000
def rowOk (l : List Int) : Bool := decide (l.length ≤ 48) && l.all fun x => betweenB x 0 1000000000
def writeOk (n : Nat) (x : DWrite) : Bool := betweenB x.at_ 0 ((n : Int) - 1) && rowOk x.row
def diskOk (d : DDisk) : Bool := decide (1 ≤ d.kept.length) && decide (d.kept.length ≤ 40) && decide (d.wait.length ≤ 60) && d.kept.all rowOk && d.wait.all (writeOk d.kept.length)
def twoOk (t : DTwo) : Bool := diskOk t.a && diskOk t.b && decide (t.a.kept.length = t.b.kept.length)
def apartB (a b : Int) : Bool := betweenB a 0 5 && betweenB b 0 5 && a != b
def msgOk (m : DMsg) : Bool := apartB m.frm m.to_ && decide (0 < m.row.length) && rowOk m.row
def linkLess (x y : DLink) : Bool := decide (x.a < y.a) || (x.a == y.a && decide (x.b < y.b))
def linkOk (x : DLink) : Bool := apartB x.a x.b && decide (x.a ≤ x.b)
def netOk (n : DNet) : Bool := decide (n.flight.length ≤ 60) && decide (n.cuts.length ≤ 15) && n.flight.all msgOk && n.cuts.all linkOk && adjB linkLess n.cuts
def clocksOk (l : List Int) : Bool := decide (l.length = 6) && l.all tOk
def nextE (x y : DEntry) : Bool := y.index == x.index + 1 && decide (x.time ≤ y.time)
def entriesOk (l : List DEntry) : Bool := decide (l.length ≤ 2000) && l.all entryOk && adjB nextE l
def bookOk (b : DBook) : Bool := betweenB b.base 0 2000 && tOk b.time && !(b.base == 0 && b.time != 0) && decide (b.entries.length ≤ 20) && entriesOk b.entries && (match b.entries with | [] => true | e :: _ => e.index == b.base + 1 && decide (b.time ≤ e.time))
def markOk (m : DMark) : Bool := betweenB m.client 2 5 && betweenB m.seq 1 2000 && betweenB m.index 1 2000
def markLt (x y : DMark) : Bool := decide (x.client < y.client)
def markEq (x y : DMark) : Bool := x.index == y.index
def seenOk (s : List DMark) : Bool := s.all markOk && adjB markLt s && apartAll markEq s
def markOfL (s : List DMark) (c : Int) : DMark := (s.find? fun m => m.client == c).getD ⟨0, 0, 0⟩
def lastSeenL : List DMark → Int := List.foldl (fun x m => if m.index > x then m.index else x) 0
def freshB (s : List DMark) (e : DEntry) : Bool := decide ((markOfL s e.client).seq < e.seq)
def DEntry.mark (e : DEntry) : DMark := ⟨e.client, e.seq, e.index⟩
def putMark (s : List DMark) (m : DMark) : List DMark := s.filter (fun x => decide (x.client < m.client)) ++ m :: s.filter (fun x => decide (m.client < x.client))
def markedO (s : List DMark) (e : DEntry) : Option (List DMark) := if entryOk e && freshB s e && decide (lastSeenL s < e.index) then some (putMark s e.mark) else none
def seenFold : List DMark → List DEntry → Option (List DMark)
  | s, [] => some s
  | s, e :: r => match markedO s e with
    | some s' => seenFold s' r
    | none => none
def seenOver (s : List DMark) (l : List DEntry) : List DMark × Bool :=
  if !seenOk s then ([], false) else if 2000 < l.length then (s, false) else match seenFold s l with | some o => (o, true) | none => (s, false)
def headOk (h : DHead) : Bool := betweenB h.base 0 2000 && betweenB h.num 0 h.base && tOk h.time && (decide (0 < h.base) || h.time == 0) && seenOk h.seen && lastSeenL h.seen == h.base
def keptOk (t : DTwo) : Bool := twoOk t && decide (t.a.kept.length = 22)
def lastB (b : DBook) : Int := b.base + b.entries.length
def head0 : DHead := ⟨0, 0, 0, []⟩
def ackOf (e : DEntry) : DAck := if entryOk e then ⟨e.client, e.seq, e.index, e.seq⟩ else ⟨0, 0, 0, 0⟩
def entAfter (b : DBook) (d : Int) : List DEntry := b.entries.filter fun e => decide (d + 1 ≤ e.index)
def entTo (b : DBook) (i : Int) : List DEntry := b.entries.take (i - b.base).toNat
def nextHead (n : DLogNode) : DHead := ⟨n.head.num + 1, n.nxt.base, (n.book.entries.getD (n.nxt.base - n.book.base - 1).toNat ⟨0, 0, 0, 0, ⟨0, 0, 0, 0, 0⟩⟩).time, (seenOver n.head.seen (entTo n.book n.nxt.base)).1⟩
def nextOkB (n : DLogNode) : Bool := if n.more then betweenB n.nxt.base (n.head.base + 1) n.durable && n.nxt == nextHead n else n.nxt == head0
def logOk (n : DLogNode) : Bool := keptOk n.two && headOk n.head && bookOk n.book && n.book.base == n.head.base && n.book.time == n.head.time && seenOver n.head.seen n.book.entries == (n.seen, true) && betweenB n.durable n.book.base (lastB n.book) && n.owe == (entAfter n.book n.durable).map ackOf && nextOkB n
def logDown (n : DLogNode) : Bool := twoOk n.two && n == ⟨n.two, head0, head0, false, ⟨0, 0, []⟩, [], 0, []⟩
def pairOk (p : DPair) : Bool := betweenB p.key 0 9 && betweenB p.value 0 999
def pairLt (x y : DPair) : Bool := decide (x.key < y.key)
def pairsOk (l : List DPair) : Bool := l.all pairOk && adjB pairLt l
def jobOk (j : DJob) : Bool := betweenB j.id 1 20 && tOk j.due && betweenB j.key 0 9 && betweenB j.value 0 999 && betweenB j.fired 0 2000
def jobLt (x y : DJob) : Bool := decide (x.id < y.id)
def jobEq (x y : DJob) : Bool := y.fired != 0 && x.fired == y.fired
def jobsOk (l : List DJob) : Bool := decide (l.length ≤ 8) && l.all jobOk && adjB jobLt l && apartAll jobEq l
def schedIs (x : Int) : Bool := x == 2 || x == 3
def leaseOk (l : DLease) : Bool := l == ⟨0, 0, 0⟩ || (schedIs l.holder && betweenB l.epoch 1 1000 && betweenB l.til 1 1001000)
def stateOk (s : DState) : Bool := betweenB s.index 0 2000 && tOk s.time && pairsOk s.pairs && jobsOk s.jobs && leaseOk s.lease && s.jobs.all fun j => decide (j.fired ≤ s.index)
def shelfOk (d : DDisk) : Bool := diskOk d && decide (d.kept.length = 8)
def storeOk (s : DStore) : Bool := shelfOk s.disk && stateOk s.state && betweenB s.num 0 1000000000 && betweenB s.last 0 s.state.index && ((s.num == 0) == (s.last == 0)) && (s.busy == 0 || (decide (s.num < 1000000000) && decide (s.last < s.busy) && decide (s.busy ≤ s.state.index)))
def state0 : DState := ⟨0, 0, [], [], ⟨0, 0, 0⟩⟩
def storeDown (s : DStore) : Bool := diskOk s.disk && s == ⟨s.disk, state0, 0, 0, 0⟩
def dueOk (d : DDue) : Bool := betweenB d.id 1 20 && tOk d.due
def dueLt (x y : DDue) : Bool := decide (x.due < y.due) || (x.due == y.due && decide (x.id < y.id))
def dueEq (x y : DDue) : Bool := x.id == y.id
def jobs2Ok (j : DJobs) : Bool := betweenB j.index 0 2000 && tOk j.time && (j.holder == 0 || schedIs j.holder) && betweenB j.epoch 0 1000 && betweenB j.til 0 1001000 && decide (j.opens.length ≤ 8) && j.opens.all dueOk && adjB dueLt j.opens && apartAll dueEq j.opens
def op0 : DOp := ⟨0, 0, 0, 0, 0⟩
def schedOkB (s : DSched) : Bool := schedIs s.id && betweenB s.seq 0 2000 && jobs2Ok s.view.jobs && betweenB s.index 0 2000 && (if s.busy then s.seq != 0 && opOk s.op && (s.op.kind == 4 || s.op.kind == 5) else s.op == op0)
def sched0 (id : Int) : DSched := ⟨id, 0, ⟨⟨0, 0, 0, 0, 0, []⟩⟩, false, op0, 0⟩
def schedFits (s : DSched) (id : Int) (up : Bool) : Bool := schedOkB s && s.id == id && (up || s == sched0 id)
def gotOk (w : DWant) (g : DGot) (seq last : Int) : Bool := g.seq == seq && betweenB g.index last 2000 && (if w.kind == 4 then (g.has == 0 && g.value == 0) || (g.has == 1 && betweenB g.value 0 999) else decide (last < g.index) && g.has == 0 && g.value == 0)
def lastAt (gs : List DGot) (k : Nat) : Int := match k with | 0 => 0 | j + 1 => (gs.getD j ⟨0, 0, 0, 0⟩).index
def clientOk (c : DClient) : Bool := (c.id == 4 || c.id == 5) && c.todo.all wantOk && decide (c.todo.length ≤ 12) && decide (c.gots.length ≤ c.todo.length) && allN c.gots.length (fun k => gotOk (c.todo.getD k ⟨0, op0, 0⟩) (c.gots.getD k ⟨0, 0, 0, 0⟩) ((k : Int) + 1) (lastAt c.gots k)) && c.last == lastAt c.gots c.gots.length
def upAt (w : DWorld) (k : Nat) : Bool := w.up.getD k false
def worldOk (w : DWorld) : Bool := clocksOk w.clocks && decide (w.up.length = 6) && netOk w.net && upAt w 4 && upAt w 5 && clientOk w.ann && w.ann.id == 4 && clientOk w.bob && w.bob.id == 5 && schedFits w.left 2 (upAt w 2) && schedFits w.right 3 (upAt w 3) && (if upAt w 0 then logOk w.log else logDown w.log) && (if upAt w 1 then storeOk w.store else storeDown w.store)
end Go.Proofs.YtmgcnmdbhahhlaaGreat
