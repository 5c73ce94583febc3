/- The law of TextOp. -/
import Derived.Test.YtlhanpkfnhnegaaDoorAvW9
set_option linter.unusedVariables false
set_option linter.unusedSimpArgs false
set_option maxRecDepth 100000
namespace Go.Proofs.YtlhanpkfnhnegaaDoor
open Go.RowKit

theorem bne_no {α : Type} [BEq α] [ReflBEq α] (a : α) : (a != a) = false := by simp [bne]
theorem eqOp_p (o : DOp) : PCall av 36 [.agg o.dz, .agg o.dz] (rB true) := by
  refine pcall_of av_ok Tryd.func36 rfl Tryd.call36 Tryd.ntmps36 (congrArg Array.toList Tryd.results36) fun S => ?_; conv => whnf
  repeat' (first | (refine AWP.seq ?_) | (refine AWP.region av_ok ?_; conv => whnf) | (refine AWP.ret ?_; conv => whnf) | (refine AWP.skip ?_; conv => whnf) | (refine AWP.exit ?_; conv => whnf) | (refine AWP.block ?_; conv => whnf) | (refine AWP.cond ?_; conv => whnf) | (refine AB.tt ?_; conv => whnf) | (refine AB.ff ?_; conv => whnf) | (refine AB.ofT (by assumption) ?_; conv => whnf) | (refine AB.ofF (by assumption) ?_; conv => whnf) | (refine AB.ofF (bne_no _) ?_; conv => whnf) | (exact trivial) | (refine And.intro rfl ?_; conv => whnf) | (refine AB.mk (fun h => ?_) (fun h => ?_) <;> (conv => whnf)))
theorem lawTextOp_p (l : List UInt8) : PCall av 8 [pL l] (rB true) := by
  by_cases h : 1048576 < l.length
  · have hlt : decide (((⟨l.toArray⟩ : ByteArray).size : Int) > 1048576) = true := by rw [sz_dL]; simp; omega
    refine pcall_of av_ok Tryd.func8 rfl Tryd.call8 Tryd.ntmps8 (congrArg Array.toList Tryd.results8) fun S => ?_; conv => whnf
    repeat' (first | (refine AWP.seq ?_) | (refine AWP.region av_ok ?_; conv => whnf) | (refine AWP.ret ?_; conv => whnf) | (refine AWP.skip ?_; conv => whnf) | (refine AWP.exit ?_; conv => whnf) | (refine AWP.block ?_; conv => whnf) | (refine AWP.cond ?_; conv => whnf) | (refine AB.tt ?_; conv => whnf) | (refine AB.ff ?_; conv => whnf) | (refine AB.ofT (by assumption) ?_; conv => whnf) | (refine AB.ofF (by assumption) ?_; conv => whnf) | (exact trivial) | (refine And.intro rfl ?_; conv => whnf) | (refine AB.mk (fun h => ?_) (fun h => ?_) <;> (conv => whnf)))
  · have hlt : decide (((⟨l.toArray⟩ : ByteArray).size : Int) > 1048576) = false := by rw [sz_dL]; simp; omega
    have ip := iTextOp_p l (by omega)
    have sp := sTextOp_p l (by omega)
    rw [textOp_eq] at ip
    generalize sTextOpL l = x at ip sp
    obtain ⟨o, b⟩ := x
    have hb : (!(b == b)) = false := by simp
    refine pcall_of av_ok Tryd.func8 rfl Tryd.call8 Tryd.ntmps8 (congrArg Array.toList Tryd.results8) fun S => ?_; conv => whnf
    repeat' (first | (refine AWP.seq ?_) | (refine AWP.region av_ok ?_; conv => whnf) | (refine AWP.ret ?_; conv => whnf) | (refine AWP.skip ?_; conv => whnf) | (refine AWP.exit ?_; conv => whnf) | (refine AWP.block ?_; conv => whnf) | (refine AWP.cond ?_; conv => whnf) | (refine AB.tt ?_; conv => whnf) | (refine AB.ff ?_; conv => whnf) | (refine AB.ofT (by assumption) ?_; conv => whnf) | (refine AB.ofF (by assumption) ?_; conv => whnf) | (refine ACall.pure sp rfl ?_; conv => whnf) | (refine ACall.pure ip rfl ?_; conv => whnf) | (refine ACall.pure (eqOp_p o) rfl ?_; conv => whnf) | (exact trivial) | (refine And.intro rfl ?_; conv => whnf) | (refine AB.mk (fun h => ?_) (fun h => ?_) <;> (conv => whnf)))
end Go.Proofs.YtlhanpkfnhnegaaDoor
