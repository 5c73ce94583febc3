/- Wants as text. -/
import Derived.Test.YtlhanpkfnhnegaaDoorAvT3
set_option linter.unusedVariables false
set_option linter.unusedSimpArgs false
set_option maxRecDepth 100000
namespace Go.Proofs.YtlhanpkfnhnegaaDoor
open Go.ChangeShapes Go.WideShapes Go.RowKit

def readL : List UInt8 := [114, 101, 97, 100]
def wantTextL (x : DWant) : List UInt8 := if wantOk x then (if x.kind == 4 then readL ++ spacedB [x.key] else opTextL x.op) else []
theorem wantOk_key {x : DWant} (h : wantOk x = true) : 0 ≤ x.key ∧ x.key ≤ 9 := by
  unfold wantOk at h
  split at h
  · simp [betweenB_iff] at h; omega
  · split at h
    · simp at h; omega
    · cases h
theorem iWantText_p (x : DWant) : PCall av 23 [.agg x.ds] (rL (wantTextL x)) := by
  refine pcall_of av_ok Tryd.func23 rfl Tryd.call23 Tryd.ntmps23 (congrArg Array.toList Tryd.results23) fun S => ?_; conv => whnf
  repeat' (first | (refine AWP.seq ?_) | (refine AWP.region av_ok ?_; conv => whnf) | (refine AWP.ret ?_; conv => whnf) | (refine AWP.skip ?_; conv => whnf) | (refine AWP.exit ?_; conv => whnf) | (refine AWP.block ?_; conv => whnf) | (refine AWP.cond ?_; conv => whnf) | (refine AB.tt ?_; conv => whnf) | (refine AB.ff ?_; conv => whnf) | (refine ACall.pure (iWantOk_p x) rfl ?_; conv => whnf) | (refine AB.ofT (by assumption) ?_; conv => whnf) | (refine AB.ofF (by assumption) ?_; conv => whnf) | (refine ⟨rfl, ?_⟩; conv => whnf) | (refine AB.mk (fun h => ?_) (fun h => ?_)))
  · simp_all [wantTextL]
  all_goals
    rename_i h1
    have h1 : wantOk x = true := by simpa using h1
    have hk := wantOk_key h1
    have w1 : (Lit.int .i64 x.key).wf = true := i64_wf (by omega) (by omega)
    have s1 : (spacedB [x.key]).length ≤ 22 := by simpa using spacedB_len [x.key] (by simpa using w1)
    conv => whnf
    repeat' (first | (refine AWP.seq ?_) | (refine AWP.region av_ok ?_; conv => whnf) | (refine AWP.ret ?_; conv => whnf) | (refine AWP.skip ?_; conv => whnf) | (refine AWP.exit ?_; conv => whnf) | (refine AWP.block ?_; conv => whnf) | (refine AWP.cond ?_; conv => whnf) | (refine AB.tt ?_; conv => whnf) | (refine AB.ff ?_; conv => whnf) | (refine ACall.scalar (ispaced_p [x.key] (by simpa using w1) (by simp)) rfl rfl ?_; conv => whnf) | (refine ACall.pure (iOpText_p x.op) rfl ?_; conv => whnf) | (refine sz_and (by simp; omega) ?_; conv => whnf) | (refine AB.ofT (by assumption) ?_; conv => whnf) | (refine AB.ofF (by assumption) ?_; conv => whnf) | (exact trivial) | (refine And.intro rfl ?_; conv => whnf) | (refine AB.mk (fun h => ?_) (fun h => ?_) <;> (conv => whnf)) | (with_reducible_and_instances rfl) | (exact (rfl : AP.tup _ = AP.tup _)))
    first | (simp_all [wantTextL]; done) | (refine str_eq ?_; simp_all [wantTextL, readL])
theorem sWantText_p (x : DWant) : PCall av 21 [.agg x.ds] (rL (wantTextL x)) := by
  refine pcall_of av_ok Tryd.func21 rfl Tryd.call21 Tryd.ntmps21 (congrArg Array.toList Tryd.results21) fun S => ?_; conv => whnf
  repeat' (first | (refine AWP.seq ?_) | (refine AWP.region av_ok ?_; conv => whnf) | (refine AWP.ret ?_; conv => whnf) | (refine AWP.skip ?_; conv => whnf) | (refine AWP.exit ?_; conv => whnf) | (refine AWP.block ?_; conv => whnf) | (refine AWP.cond ?_; conv => whnf) | (refine AB.tt ?_; conv => whnf) | (refine AB.ff ?_; conv => whnf) | (refine ACall.pure (sWantOk_p x) rfl ?_; conv => whnf) | (refine AB.ofT (by assumption) ?_; conv => whnf) | (refine AB.ofF (by assumption) ?_; conv => whnf) | (refine ⟨rfl, ?_⟩; conv => whnf) | (refine AB.mk (fun h => ?_) (fun h => ?_)))
  · simp_all [wantTextL]
  all_goals
    rename_i h1
    have h1 : wantOk x = true := by simpa using h1
    have hk := wantOk_key h1
    have s1 := itoa_le (x := x.key) (by omega) (by omega)
    conv => whnf
    repeat' (first | (refine AWP.seq ?_) | (refine AWP.region av_ok ?_; conv => whnf) | (refine AWP.ret ?_; conv => whnf) | (refine AWP.skip ?_; conv => whnf) | (refine AWP.exit ?_; conv => whnf) | (refine AWP.block ?_; conv => whnf) | (refine AWP.cond ?_; conv => whnf) | (refine AB.tt ?_; conv => whnf) | (refine AB.ff ?_; conv => whnf) | (refine ACall.pure (sl1IntZ_p x.key (by omega) (by omega)) rfl ?_; conv => whnf) | (refine ACall.pure (sOpText_p x.op) rfl ?_; conv => whnf) | (refine sz_and (by simp; omega) ?_; conv => whnf) | (refine AB.ofT (by assumption) ?_; conv => whnf) | (refine AB.ofF (by assumption) ?_; conv => whnf) | (exact trivial) | (refine And.intro rfl ?_; conv => whnf) | (refine AB.mk (fun h => ?_) (fun h => ?_) <;> (conv => whnf)) | (with_reducible_and_instances rfl) | (exact (rfl : AP.tup _ = AP.tup _)))
    first | (simp_all [wantTextL]; done) | (refine str_eq ?_; simp_all [wantTextL, readL, spacedB])
theorem toOp_p (o : DOp) : PCall av 16 [.agg (DOp.ds o)] (.val (.agg (DOp.ds o))) := by
  refine pcall_of av_ok Tryd.func16 rfl Tryd.call16 Tryd.ntmps16 (congrArg Array.toList Tryd.results16) fun S => ?_; conv => whnf
  repeat' (first | (refine AWP.seq ?_) | (refine AWP.region av_ok ?_; conv => whnf) | (refine AWP.ret ?_; conv => whnf) | (refine AWP.skip ?_; conv => whnf) | (refine AWP.exit ?_; conv => whnf) | (refine AWP.block ?_; conv => whnf) | (refine AWP.cond ?_; conv => whnf) | (refine AB.tt ?_; conv => whnf) | (refine AB.ff ?_; conv => whnf) | (exact trivial) | (refine And.intro rfl ?_; conv => whnf) | (refine AB.mk (fun h => ?_) (fun h => ?_) <;> (conv => whnf)) | (with_reducible_and_instances rfl) | (exact (rfl : AP.tup _ = AP.tup _)))
  all_goals rfl
theorem toWant_p (x : DWant) : PCall av 22 [.agg x.ds] (.val (.agg x.ds)) := by
  refine pcall_of av_ok Tryd.func22 rfl Tryd.call22 Tryd.ntmps22 (congrArg Array.toList Tryd.results22) fun S => ?_; conv => whnf
  repeat' (first | (refine AWP.seq ?_) | (refine AWP.region av_ok ?_; conv => whnf) | (refine AWP.ret ?_; conv => whnf) | (refine AWP.skip ?_; conv => whnf) | (refine AWP.exit ?_; conv => whnf) | (refine AWP.block ?_; conv => whnf) | (refine AWP.cond ?_; conv => whnf) | (refine AB.tt ?_; conv => whnf) | (refine AB.ff ?_; conv => whnf) | (refine ACall.pure (toOp_p x.op) rfl ?_; conv => whnf) | (exact trivial) | (refine And.intro rfl ?_; conv => whnf) | (refine AB.mk (fun h => ?_) (fun h => ?_) <;> (conv => whnf)) | (with_reducible_and_instances rfl) | (exact (rfl : AP.tup _ = AP.tup _)))
  all_goals rfl
theorem lawWantText_p (x : DWant) : PCall av 5 [.agg x.ds] (rB true) := by
  refine pcall_of av_ok Tryd.func5 rfl Tryd.call5 Tryd.ntmps5 (congrArg Array.toList Tryd.results5) fun S => ?_; conv => whnf
  repeat' (first | (refine AWP.seq ?_) | (refine AWP.region av_ok ?_; conv => whnf) | (refine AWP.ret ?_; conv => whnf) | (refine AWP.skip ?_; conv => whnf) | (refine AWP.exit ?_; conv => whnf) | (refine AWP.block ?_; conv => whnf) | (refine AWP.cond ?_; conv => whnf) | (refine AB.tt ?_; conv => whnf) | (refine AB.ff ?_; conv => whnf) | (refine ACall.pure (toWant_p x) rfl ?_; conv => whnf) | (refine ACall.pure (sWantText_p x) rfl ?_; conv => whnf) | (refine ACall.pure (iWantText_p x) rfl ?_; conv => whnf) | (exact trivial) | (refine And.intro rfl ?_; conv => whnf) | (refine AB.mk (fun h => ?_) (fun h => ?_) <;> (conv => whnf)) | (with_reducible_and_instances rfl) | (exact (rfl : AP.tup _ = AP.tup _)))
  all_goals simp_all
end Go.Proofs.YtlhanpkfnhnegaaDoor
