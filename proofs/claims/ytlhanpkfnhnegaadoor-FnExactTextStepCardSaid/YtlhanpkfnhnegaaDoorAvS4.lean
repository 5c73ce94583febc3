/- Steps as text. -/
import Derived.Test.YtlhanpkfnhnegaaDoorAvS3
set_option linter.unusedVariables false
set_option linter.unusedSimpArgs false
set_option maxRecDepth 100000
namespace Go.Proofs.YtlhanpkfnhnegaaDoor
open Go.ChangeShapes Go.WideShapes Go.RowKit

def kindsL : List (List UInt8) := [[], [104, 97, 110, 100], [116, 105, 99, 107], [116, 105, 109, 101], [106, 117, 109, 112], [102, 97, 108, 108], [114, 105, 115, 101], [108, 111, 115, 101], [116, 119, 105, 99, 101], [99, 117, 116], [104, 101, 97, 108], [114, 111, 116]]
def kindL (k : Int) : List UInt8 := kindsL.getD k.toNat []
theorem kind_cases {k : Int} (h0 : 1 ≤ k) (h1 : k ≤ 11) : k = 1 ∨ k = 2 ∨ k = 3 ∨ k = 4 ∨ k = 5 ∨ k = 6 ∨ k = 7 ∨ k = 8 ∨ k = 9 ∨ k = 10 ∨ k = 11 := by omega
theorem stepOk_facts {x : DStep} (h : stepOk x = true) : (1 ≤ x.kind ∧ x.kind ≤ 11) ∧ (0 ≤ x.a ∧ x.a ≤ 1000000000) ∧ (0 ≤ x.b ∧ x.b ≤ 1000000000) ∧ (0 ≤ x.c ∧ x.c ≤ 1000000000) ∧ fatesB x.fates = true ∧ (x.kind ≠ 5 → x.fates = []) := by
  unfold stepOk at h
  simp only [Bool.and_eq_true] at h
  obtain ⟨h, hk⟩ := h
  simp only [stepNums, numsB, Bool.and_eq_true, betweenB_iff] at h
  obtain ⟨⟨⟨⟨⟨ha, hb⟩, hc⟩, hf⟩, h5⟩, _⟩ := h
  refine ⟨?_, ha, hb, hc, hf, fun hne => ?_⟩
  · unfold stepKind at hk
    repeat' split at hk
    all_goals simp_all
    all_goals omega
  · simpa [hne] using h5
theorem istepWord_p (k : Int) (h0 : 1 ≤ k) (h1 : k ≤ 11) : PCall av 87 [pI k] (rL (kindL k)) := by
  rcases kind_cases h0 h1 with rfl | rfl | rfl | rfl | rfl | rfl | rfl | rfl | rfl | rfl | rfl
  all_goals
    refine pcall_of av_ok Tryd.func87 rfl Tryd.call87 Tryd.ntmps87 (congrArg Array.toList Tryd.results87) fun S => ?_; conv => whnf
    repeat' (first | (refine AWP.seq ?_) | (refine AWP.region av_ok ?_; conv => whnf) | (refine AWP.ret ?_; conv => whnf) | (refine AWP.skip ?_; conv => whnf) | (refine AWP.exit ?_; conv => whnf) | (refine AWP.block ?_; conv => whnf) | (refine AWP.cond ?_; conv => whnf) | (refine AB.tt ?_; conv => whnf) | (refine AB.ff ?_; conv => whnf) | (refine ACall.pure (ibetween_p _ _ _) rfl ?_; conv => whnf) | (refine AIx.at _ _ rfl rfl ?_; conv => whnf) | (exact trivial) | (refine And.intro rfl ?_; conv => whnf) | (refine AB.mk (fun h => ?_) (fun h => ?_) <;> (conv => whnf)) | (with_reducible_and_instances rfl) | (exact (rfl : AP.tup _ = AP.tup _)))
  all_goals rfl
def stepWords (x : DStep) : List (List UInt8) :=
  [kindL x.kind, if x.kind == 1 || x.kind == 7 || x.kind == 8 || x.kind == 11 then Lib.itoa x.a else nodeWordL x.a] ++
    (if x.kind == 3 || x.kind == 4 then [Lib.itoa x.b] else if x.kind == 9 || x.kind == 10 then [nodeWordL x.b] else if x.kind == 11 then [Lib.itoa x.b, Lib.itoa x.c] else []) ++
    (if x.fates = [] then [] else [fateL x.fates])
def stepTextL (x : DStep) : List UInt8 := if stepOk x then wordsB [32] (stepWords x) else []
theorem fateL_len (l : List Int) : (fateL l).length = l.length := by simp [fateL]
theorem iStepText_1 (a b c : Int) (h : stepOk ⟨1, a, b, c, []⟩ = true) : PCall av 27 [.agg (DStep.ds ⟨1, a, b, c, []⟩)] (rL (stepTextL ⟨1, a, b, c, []⟩)) := by
  have hF := stepOk_facts h
  simp only at hF
  have hn : (!stepOk ⟨1, a, b, c, []⟩) = false := by simp [h]
  have wa : (Lit.int .i64 a).wf = true := i64_wf (by omega) (by omega)
  have wb : (Lit.int .i64 b).wf = true := i64_wf (by omega) (by omega)
  have wc : (Lit.int .i64 c).wf = true := i64_wf (by omega) (by omega)
  have s1 : (spacedB [a]).length ≤ 22 := by simpa using spacedB_len [a] (by simpa using wa)
  have s2 : (spacedB [b]).length ≤ 22 := by simpa using spacedB_len [b] (by simpa using wb)
  have s3 : (spacedB [a, b, c]).length ≤ 66 := by simpa using spacedB_len [a, b, c] (by simp [wa, wb, wc])
  have s4 := nodeWordL_len a
  have s5 := nodeWordL_len b
  refine pcall_of av_ok Tryd.func27 rfl Tryd.call27 Tryd.ntmps27 (congrArg Array.toList Tryd.results27) fun S => ?_; conv => whnf
  repeat' (first | (refine AWP.seq ?_) | (refine AWP.region av_ok ?_; conv => whnf) | (refine AWP.ret ?_; conv => whnf) | (refine AWP.skip ?_; conv => whnf) | (refine AWP.exit ?_; conv => whnf) | (refine AWP.block ?_; conv => whnf) | (refine AWP.cond ?_; conv => whnf) | (refine AB.tt ?_; conv => whnf) | (refine AB.ff ?_; conv => whnf) | (refine ACall.pure (iStepOk_p ⟨1, a, b, c, []⟩) rfl ?_; conv => whnf) | (refine ACall.pure (istepWord_p 1 (by omega) (by omega)) rfl ?_; conv => whnf) | (refine ACall.scalar (ispaced_p [a] (by simpa using wa) (by simp)) rfl rfl ?_; conv => whnf) | (refine ACall.scalar (ispaced_p [a, b, c] (by simp [wa, wb, wc]) (by simp)) rfl rfl ?_; conv => whnf) | (refine ACall.pure (iNodeWord_p a) rfl ?_; conv => whnf) | (refine sz_and (by simp [kindL, kindsL] <;> omega) ?_; conv => whnf) | (refine AB.ofT (by assumption) ?_; conv => whnf) | (refine AB.ofF (by assumption) ?_; conv => whnf) | (exact trivial) | (refine And.intro rfl ?_; conv => whnf) | (refine AB.mk (fun h => ?_) (fun h => ?_) <;> (conv => whnf)) | (with_reducible_and_instances rfl) | (exact (rfl : AP.tup _ = AP.tup _)))
  refine str_eq ?_
  simp [stepTextL, h, stepWords, wordsB, spacedB, kindL, kindsL]
theorem iStepText_7 (a b c : Int) (h : stepOk ⟨7, a, b, c, []⟩ = true) : PCall av 27 [.agg (DStep.ds ⟨7, a, b, c, []⟩)] (rL (stepTextL ⟨7, a, b, c, []⟩)) := by
  have hF := stepOk_facts h
  simp only at hF
  have hn : (!stepOk ⟨7, a, b, c, []⟩) = false := by simp [h]
  have wa : (Lit.int .i64 a).wf = true := i64_wf (by omega) (by omega)
  have wb : (Lit.int .i64 b).wf = true := i64_wf (by omega) (by omega)
  have wc : (Lit.int .i64 c).wf = true := i64_wf (by omega) (by omega)
  have s1 : (spacedB [a]).length ≤ 22 := by simpa using spacedB_len [a] (by simpa using wa)
  have s2 : (spacedB [b]).length ≤ 22 := by simpa using spacedB_len [b] (by simpa using wb)
  have s3 : (spacedB [a, b, c]).length ≤ 66 := by simpa using spacedB_len [a, b, c] (by simp [wa, wb, wc])
  have s4 := nodeWordL_len a
  have s5 := nodeWordL_len b
  refine pcall_of av_ok Tryd.func27 rfl Tryd.call27 Tryd.ntmps27 (congrArg Array.toList Tryd.results27) fun S => ?_; conv => whnf
  repeat' (first | (refine AWP.seq ?_) | (refine AWP.region av_ok ?_; conv => whnf) | (refine AWP.ret ?_; conv => whnf) | (refine AWP.skip ?_; conv => whnf) | (refine AWP.exit ?_; conv => whnf) | (refine AWP.block ?_; conv => whnf) | (refine AWP.cond ?_; conv => whnf) | (refine AB.tt ?_; conv => whnf) | (refine AB.ff ?_; conv => whnf) | (refine ACall.pure (iStepOk_p ⟨7, a, b, c, []⟩) rfl ?_; conv => whnf) | (refine ACall.pure (istepWord_p 7 (by omega) (by omega)) rfl ?_; conv => whnf) | (refine ACall.scalar (ispaced_p [a] (by simpa using wa) (by simp)) rfl rfl ?_; conv => whnf) | (refine ACall.scalar (ispaced_p [a, b, c] (by simp [wa, wb, wc]) (by simp)) rfl rfl ?_; conv => whnf) | (refine ACall.pure (iNodeWord_p a) rfl ?_; conv => whnf) | (refine sz_and (by simp [kindL, kindsL] <;> omega) ?_; conv => whnf) | (refine AB.ofT (by assumption) ?_; conv => whnf) | (refine AB.ofF (by assumption) ?_; conv => whnf) | (exact trivial) | (refine And.intro rfl ?_; conv => whnf) | (refine AB.mk (fun h => ?_) (fun h => ?_) <;> (conv => whnf)) | (with_reducible_and_instances rfl) | (exact (rfl : AP.tup _ = AP.tup _)))
  refine str_eq ?_
  simp [stepTextL, h, stepWords, wordsB, spacedB, kindL, kindsL]
theorem iStepText_8 (a b c : Int) (h : stepOk ⟨8, a, b, c, []⟩ = true) : PCall av 27 [.agg (DStep.ds ⟨8, a, b, c, []⟩)] (rL (stepTextL ⟨8, a, b, c, []⟩)) := by
  have hF := stepOk_facts h
  simp only at hF
  have hn : (!stepOk ⟨8, a, b, c, []⟩) = false := by simp [h]
  have wa : (Lit.int .i64 a).wf = true := i64_wf (by omega) (by omega)
  have wb : (Lit.int .i64 b).wf = true := i64_wf (by omega) (by omega)
  have wc : (Lit.int .i64 c).wf = true := i64_wf (by omega) (by omega)
  have s1 : (spacedB [a]).length ≤ 22 := by simpa using spacedB_len [a] (by simpa using wa)
  have s2 : (spacedB [b]).length ≤ 22 := by simpa using spacedB_len [b] (by simpa using wb)
  have s3 : (spacedB [a, b, c]).length ≤ 66 := by simpa using spacedB_len [a, b, c] (by simp [wa, wb, wc])
  have s4 := nodeWordL_len a
  have s5 := nodeWordL_len b
  refine pcall_of av_ok Tryd.func27 rfl Tryd.call27 Tryd.ntmps27 (congrArg Array.toList Tryd.results27) fun S => ?_; conv => whnf
  repeat' (first | (refine AWP.seq ?_) | (refine AWP.region av_ok ?_; conv => whnf) | (refine AWP.ret ?_; conv => whnf) | (refine AWP.skip ?_; conv => whnf) | (refine AWP.exit ?_; conv => whnf) | (refine AWP.block ?_; conv => whnf) | (refine AWP.cond ?_; conv => whnf) | (refine AB.tt ?_; conv => whnf) | (refine AB.ff ?_; conv => whnf) | (refine ACall.pure (iStepOk_p ⟨8, a, b, c, []⟩) rfl ?_; conv => whnf) | (refine ACall.pure (istepWord_p 8 (by omega) (by omega)) rfl ?_; conv => whnf) | (refine ACall.scalar (ispaced_p [a] (by simpa using wa) (by simp)) rfl rfl ?_; conv => whnf) | (refine ACall.scalar (ispaced_p [a, b, c] (by simp [wa, wb, wc]) (by simp)) rfl rfl ?_; conv => whnf) | (refine ACall.pure (iNodeWord_p a) rfl ?_; conv => whnf) | (refine sz_and (by simp [kindL, kindsL] <;> omega) ?_; conv => whnf) | (refine AB.ofT (by assumption) ?_; conv => whnf) | (refine AB.ofF (by assumption) ?_; conv => whnf) | (exact trivial) | (refine And.intro rfl ?_; conv => whnf) | (refine AB.mk (fun h => ?_) (fun h => ?_) <;> (conv => whnf)) | (with_reducible_and_instances rfl) | (exact (rfl : AP.tup _ = AP.tup _)))
  refine str_eq ?_
  simp [stepTextL, h, stepWords, wordsB, spacedB, kindL, kindsL]
theorem iStepText_2 (a b c : Int) (h : stepOk ⟨2, a, b, c, []⟩ = true) : PCall av 27 [.agg (DStep.ds ⟨2, a, b, c, []⟩)] (rL (stepTextL ⟨2, a, b, c, []⟩)) := by
  have hF := stepOk_facts h
  simp only at hF
  have hn : (!stepOk ⟨2, a, b, c, []⟩) = false := by simp [h]
  have wa : (Lit.int .i64 a).wf = true := i64_wf (by omega) (by omega)
  have wb : (Lit.int .i64 b).wf = true := i64_wf (by omega) (by omega)
  have wc : (Lit.int .i64 c).wf = true := i64_wf (by omega) (by omega)
  have s1 : (spacedB [a]).length ≤ 22 := by simpa using spacedB_len [a] (by simpa using wa)
  have s2 : (spacedB [b]).length ≤ 22 := by simpa using spacedB_len [b] (by simpa using wb)
  have s3 : (spacedB [a, b, c]).length ≤ 66 := by simpa using spacedB_len [a, b, c] (by simp [wa, wb, wc])
  have s4 := nodeWordL_len a
  have s5 := nodeWordL_len b
  refine pcall_of av_ok Tryd.func27 rfl Tryd.call27 Tryd.ntmps27 (congrArg Array.toList Tryd.results27) fun S => ?_; conv => whnf
  repeat' (first | (refine AWP.seq ?_) | (refine AWP.region av_ok ?_; conv => whnf) | (refine AWP.ret ?_; conv => whnf) | (refine AWP.skip ?_; conv => whnf) | (refine AWP.exit ?_; conv => whnf) | (refine AWP.block ?_; conv => whnf) | (refine AWP.cond ?_; conv => whnf) | (refine AB.tt ?_; conv => whnf) | (refine AB.ff ?_; conv => whnf) | (refine ACall.pure (iStepOk_p ⟨2, a, b, c, []⟩) rfl ?_; conv => whnf) | (refine ACall.pure (istepWord_p 2 (by omega) (by omega)) rfl ?_; conv => whnf) | (refine ACall.scalar (ispaced_p [a] (by simpa using wa) (by simp)) rfl rfl ?_; conv => whnf) | (refine ACall.scalar (ispaced_p [a, b, c] (by simp [wa, wb, wc]) (by simp)) rfl rfl ?_; conv => whnf) | (refine ACall.pure (iNodeWord_p a) rfl ?_; conv => whnf) | (refine sz_and (by simp [kindL, kindsL] <;> omega) ?_; conv => whnf) | (refine AB.ofT (by assumption) ?_; conv => whnf) | (refine AB.ofF (by assumption) ?_; conv => whnf) | (exact trivial) | (refine And.intro rfl ?_; conv => whnf) | (refine AB.mk (fun h => ?_) (fun h => ?_) <;> (conv => whnf)) | (with_reducible_and_instances rfl) | (exact (rfl : AP.tup _ = AP.tup _)))
  refine str_eq ?_
  simp [stepTextL, h, stepWords, wordsB, spacedB, kindL, kindsL]
theorem iStepText_6 (a b c : Int) (h : stepOk ⟨6, a, b, c, []⟩ = true) : PCall av 27 [.agg (DStep.ds ⟨6, a, b, c, []⟩)] (rL (stepTextL ⟨6, a, b, c, []⟩)) := by
  have hF := stepOk_facts h
  simp only at hF
  have hn : (!stepOk ⟨6, a, b, c, []⟩) = false := by simp [h]
  have wa : (Lit.int .i64 a).wf = true := i64_wf (by omega) (by omega)
  have wb : (Lit.int .i64 b).wf = true := i64_wf (by omega) (by omega)
  have wc : (Lit.int .i64 c).wf = true := i64_wf (by omega) (by omega)
  have s1 : (spacedB [a]).length ≤ 22 := by simpa using spacedB_len [a] (by simpa using wa)
  have s2 : (spacedB [b]).length ≤ 22 := by simpa using spacedB_len [b] (by simpa using wb)
  have s3 : (spacedB [a, b, c]).length ≤ 66 := by simpa using spacedB_len [a, b, c] (by simp [wa, wb, wc])
  have s4 := nodeWordL_len a
  have s5 := nodeWordL_len b
  refine pcall_of av_ok Tryd.func27 rfl Tryd.call27 Tryd.ntmps27 (congrArg Array.toList Tryd.results27) fun S => ?_; conv => whnf
  repeat' (first | (refine AWP.seq ?_) | (refine AWP.region av_ok ?_; conv => whnf) | (refine AWP.ret ?_; conv => whnf) | (refine AWP.skip ?_; conv => whnf) | (refine AWP.exit ?_; conv => whnf) | (refine AWP.block ?_; conv => whnf) | (refine AWP.cond ?_; conv => whnf) | (refine AB.tt ?_; conv => whnf) | (refine AB.ff ?_; conv => whnf) | (refine ACall.pure (iStepOk_p ⟨6, a, b, c, []⟩) rfl ?_; conv => whnf) | (refine ACall.pure (istepWord_p 6 (by omega) (by omega)) rfl ?_; conv => whnf) | (refine ACall.scalar (ispaced_p [a] (by simpa using wa) (by simp)) rfl rfl ?_; conv => whnf) | (refine ACall.scalar (ispaced_p [a, b, c] (by simp [wa, wb, wc]) (by simp)) rfl rfl ?_; conv => whnf) | (refine ACall.pure (iNodeWord_p a) rfl ?_; conv => whnf) | (refine sz_and (by simp [kindL, kindsL] <;> omega) ?_; conv => whnf) | (refine AB.ofT (by assumption) ?_; conv => whnf) | (refine AB.ofF (by assumption) ?_; conv => whnf) | (exact trivial) | (refine And.intro rfl ?_; conv => whnf) | (refine AB.mk (fun h => ?_) (fun h => ?_) <;> (conv => whnf)) | (with_reducible_and_instances rfl) | (exact (rfl : AP.tup _ = AP.tup _)))
  refine str_eq ?_
  simp [stepTextL, h, stepWords, wordsB, spacedB, kindL, kindsL]
theorem iStepText_11 (a b c : Int) (h : stepOk ⟨11, a, b, c, []⟩ = true) : PCall av 27 [.agg (DStep.ds ⟨11, a, b, c, []⟩)] (rL (stepTextL ⟨11, a, b, c, []⟩)) := by
  have hF := stepOk_facts h
  simp only at hF
  have hn : (!stepOk ⟨11, a, b, c, []⟩) = false := by simp [h]
  have wa : (Lit.int .i64 a).wf = true := i64_wf (by omega) (by omega)
  have wb : (Lit.int .i64 b).wf = true := i64_wf (by omega) (by omega)
  have wc : (Lit.int .i64 c).wf = true := i64_wf (by omega) (by omega)
  have s1 : (spacedB [a]).length ≤ 22 := by simpa using spacedB_len [a] (by simpa using wa)
  have s2 : (spacedB [b]).length ≤ 22 := by simpa using spacedB_len [b] (by simpa using wb)
  have s3 : (spacedB [a, b, c]).length ≤ 66 := by simpa using spacedB_len [a, b, c] (by simp [wa, wb, wc])
  have s4 := nodeWordL_len a
  have s5 := nodeWordL_len b
  refine pcall_of av_ok Tryd.func27 rfl Tryd.call27 Tryd.ntmps27 (congrArg Array.toList Tryd.results27) fun S => ?_; conv => whnf
  repeat' (first | (refine AWP.seq ?_) | (refine AWP.region av_ok ?_; conv => whnf) | (refine AWP.ret ?_; conv => whnf) | (refine AWP.skip ?_; conv => whnf) | (refine AWP.exit ?_; conv => whnf) | (refine AWP.block ?_; conv => whnf) | (refine AWP.cond ?_; conv => whnf) | (refine AB.tt ?_; conv => whnf) | (refine AB.ff ?_; conv => whnf) | (refine ACall.pure (iStepOk_p ⟨11, a, b, c, []⟩) rfl ?_; conv => whnf) | (refine ACall.pure (istepWord_p 11 (by omega) (by omega)) rfl ?_; conv => whnf) | (refine ACall.scalar (ispaced_p [a] (by simpa using wa) (by simp)) rfl rfl ?_; conv => whnf) | (refine ACall.scalar (ispaced_p [a, b, c] (by simp [wa, wb, wc]) (by simp)) rfl rfl ?_; conv => whnf) | (refine ACall.pure (iNodeWord_p a) rfl ?_; conv => whnf) | (refine sz_and (by simp [kindL, kindsL] <;> omega) ?_; conv => whnf) | (refine AB.ofT (by assumption) ?_; conv => whnf) | (refine AB.ofF (by assumption) ?_; conv => whnf) | (exact trivial) | (refine And.intro rfl ?_; conv => whnf) | (refine AB.mk (fun h => ?_) (fun h => ?_) <;> (conv => whnf)) | (with_reducible_and_instances rfl) | (exact (rfl : AP.tup _ = AP.tup _)))
  refine str_eq ?_
  simp [stepTextL, h, stepWords, wordsB, spacedB, kindL, kindsL]
theorem iStepText_3 (a b c : Int) (h : stepOk ⟨3, a, b, c, []⟩ = true) : PCall av 27 [.agg (DStep.ds ⟨3, a, b, c, []⟩)] (rL (stepTextL ⟨3, a, b, c, []⟩)) := by
  have hF := stepOk_facts h
  simp only at hF
  have hn : (!stepOk ⟨3, a, b, c, []⟩) = false := by simp [h]
  have wa : (Lit.int .i64 a).wf = true := i64_wf (by omega) (by omega)
  have wb : (Lit.int .i64 b).wf = true := i64_wf (by omega) (by omega)
  have wc : (Lit.int .i64 c).wf = true := i64_wf (by omega) (by omega)
  have s1 : (spacedB [a]).length ≤ 22 := by simpa using spacedB_len [a] (by simpa using wa)
  have s2 : (spacedB [b]).length ≤ 22 := by simpa using spacedB_len [b] (by simpa using wb)
  have s3 : (spacedB [a, b, c]).length ≤ 66 := by simpa using spacedB_len [a, b, c] (by simp [wa, wb, wc])
  have s4 := nodeWordL_len a
  have s5 := nodeWordL_len b
  refine pcall_of av_ok Tryd.func27 rfl Tryd.call27 Tryd.ntmps27 (congrArg Array.toList Tryd.results27) fun S => ?_; conv => whnf
  repeat' (first | (refine AWP.seq ?_) | (refine AWP.region av_ok ?_; conv => whnf) | (refine AWP.ret ?_; conv => whnf) | (refine AWP.skip ?_; conv => whnf) | (refine AWP.exit ?_; conv => whnf) | (refine AWP.block ?_; conv => whnf) | (refine AWP.cond ?_; conv => whnf) | (refine AB.tt ?_; conv => whnf) | (refine AB.ff ?_; conv => whnf) | (refine ACall.pure (iStepOk_p ⟨3, a, b, c, []⟩) rfl ?_; conv => whnf) | (refine ACall.pure (istepWord_p 3 (by omega) (by omega)) rfl ?_; conv => whnf) | (refine ACall.scalar (ispaced_p [a] (by simpa using wa) (by simp)) rfl rfl ?_; conv => whnf) | (refine ACall.scalar (ispaced_p [a, b, c] (by simp [wa, wb, wc]) (by simp)) rfl rfl ?_; conv => whnf) | (refine ACall.pure (iNodeWord_p a) rfl ?_; conv => whnf) | (refine sz_and (by simp [kindL, kindsL] <;> omega) ?_; conv => whnf) | (refine AB.ofT (by assumption) ?_; conv => whnf) | (refine AB.ofF (by assumption) ?_; conv => whnf) | (exact trivial) | (refine And.intro rfl ?_; conv => whnf) | (refine AB.mk (fun h => ?_) (fun h => ?_) <;> (conv => whnf)) | (with_reducible_and_instances rfl) | (exact (rfl : AP.tup _ = AP.tup _)))
  refine' AWP.draw av_ok 10 [[], [0], [], [2], [2, 3], [3, 2, 4, 0, 1], [], [6], [6, 7], [3, 2, 4, 7, 6, 8], [8, 6, 7, 9, 1, 0, 4, 2, 3, 5], [5, 3, 2, 4, 0, 1, 9, 7, 6, 8, 10]] [(_, _), (_, _), (_, _), (_, _), (_, _), (_, _), (_, _), (_, _), (_, _), (_, _)] ?hD ?hok ?hl ?hf ?hno ?ht
  case hD => kernel_rfl
  case hok => kernel_rfl
  case hl => rfl
  case hf =>
    conv => whnf
    repeat' (first | (refine ⟨rfl, rfl⟩) | exact trivial | (refine AFCall.mk ⟨_, _, iNodeWord_p a, .inl rfl, ?_⟩; conv => whnf) | (refine AFCall.mk ⟨_, _, iNodeWord_p b, .inl rfl, ?_⟩; conv => whnf) | (refine AFCall.mk ⟨_, _, ispaced_p [b] (by simpa using wb) (by simp), .inl rfl, ?_⟩; conv => whnf) | (refine sz_and (by simp [kindL, kindsL] <;> omega) ?_; conv => whnf) | (refine And.intro ?_ ?_ <;> conv => whnf))
  case hno => rfl
  case ht =>
    conv => whnf
    repeat' (first | (refine AWP.seq ?_) | (refine AWP.region av_ok ?_; conv => whnf) | (refine AWP.ret ?_; conv => whnf) | (refine AWP.skip ?_; conv => whnf) | (refine AWP.exit ?_; conv => whnf) | (refine AWP.block ?_; conv => whnf) | (refine AWP.cond ?_; conv => whnf) | (refine AB.tt ?_; conv => whnf) | (refine AB.ff ?_; conv => whnf) | (refine sz_and (by simp [kindL, kindsL] <;> omega) ?_; conv => whnf) | (exact trivial) | (refine And.intro rfl ?_; conv => whnf) | (refine AB.mk (fun h => ?_) (fun h => ?_) <;> (conv => whnf)) | (with_reducible_and_instances rfl) | (exact (rfl : AP.tup _ = AP.tup _)))
    refine str_eq ?_
    simp [stepTextL, h, stepWords, wordsB, spacedB, kindL, kindsL]
theorem iStepText_4 (a b c : Int) (h : stepOk ⟨4, a, b, c, []⟩ = true) : PCall av 27 [.agg (DStep.ds ⟨4, a, b, c, []⟩)] (rL (stepTextL ⟨4, a, b, c, []⟩)) := by
  have hF := stepOk_facts h
  simp only at hF
  have hn : (!stepOk ⟨4, a, b, c, []⟩) = false := by simp [h]
  have wa : (Lit.int .i64 a).wf = true := i64_wf (by omega) (by omega)
  have wb : (Lit.int .i64 b).wf = true := i64_wf (by omega) (by omega)
  have wc : (Lit.int .i64 c).wf = true := i64_wf (by omega) (by omega)
  have s1 : (spacedB [a]).length ≤ 22 := by simpa using spacedB_len [a] (by simpa using wa)
  have s2 : (spacedB [b]).length ≤ 22 := by simpa using spacedB_len [b] (by simpa using wb)
  have s3 : (spacedB [a, b, c]).length ≤ 66 := by simpa using spacedB_len [a, b, c] (by simp [wa, wb, wc])
  have s4 := nodeWordL_len a
  have s5 := nodeWordL_len b
  refine pcall_of av_ok Tryd.func27 rfl Tryd.call27 Tryd.ntmps27 (congrArg Array.toList Tryd.results27) fun S => ?_; conv => whnf
  repeat' (first | (refine AWP.seq ?_) | (refine AWP.region av_ok ?_; conv => whnf) | (refine AWP.ret ?_; conv => whnf) | (refine AWP.skip ?_; conv => whnf) | (refine AWP.exit ?_; conv => whnf) | (refine AWP.block ?_; conv => whnf) | (refine AWP.cond ?_; conv => whnf) | (refine AB.tt ?_; conv => whnf) | (refine AB.ff ?_; conv => whnf) | (refine ACall.pure (iStepOk_p ⟨4, a, b, c, []⟩) rfl ?_; conv => whnf) | (refine ACall.pure (istepWord_p 4 (by omega) (by omega)) rfl ?_; conv => whnf) | (refine ACall.scalar (ispaced_p [a] (by simpa using wa) (by simp)) rfl rfl ?_; conv => whnf) | (refine ACall.scalar (ispaced_p [a, b, c] (by simp [wa, wb, wc]) (by simp)) rfl rfl ?_; conv => whnf) | (refine ACall.pure (iNodeWord_p a) rfl ?_; conv => whnf) | (refine sz_and (by simp [kindL, kindsL] <;> omega) ?_; conv => whnf) | (refine AB.ofT (by assumption) ?_; conv => whnf) | (refine AB.ofF (by assumption) ?_; conv => whnf) | (exact trivial) | (refine And.intro rfl ?_; conv => whnf) | (refine AB.mk (fun h => ?_) (fun h => ?_) <;> (conv => whnf)) | (with_reducible_and_instances rfl) | (exact (rfl : AP.tup _ = AP.tup _)))
  refine' AWP.draw av_ok 10 [[], [0], [], [2], [2, 3], [3, 2, 4, 0, 1], [], [6], [6, 7], [3, 2, 4, 7, 6, 8], [8, 6, 7, 9, 1, 0, 4, 2, 3, 5], [5, 3, 2, 4, 0, 1, 9, 7, 6, 8, 10]] [(_, _), (_, _), (_, _), (_, _), (_, _), (_, _), (_, _), (_, _), (_, _), (_, _)] ?hD ?hok ?hl ?hf ?hno ?ht
  case hD => kernel_rfl
  case hok => kernel_rfl
  case hl => rfl
  case hf =>
    conv => whnf
    repeat' (first | (refine ⟨rfl, rfl⟩) | exact trivial | (refine AFCall.mk ⟨_, _, iNodeWord_p a, .inl rfl, ?_⟩; conv => whnf) | (refine AFCall.mk ⟨_, _, iNodeWord_p b, .inl rfl, ?_⟩; conv => whnf) | (refine AFCall.mk ⟨_, _, ispaced_p [b] (by simpa using wb) (by simp), .inl rfl, ?_⟩; conv => whnf) | (refine sz_and (by simp [kindL, kindsL] <;> omega) ?_; conv => whnf) | (refine And.intro ?_ ?_ <;> conv => whnf))
  case hno => rfl
  case ht =>
    conv => whnf
    repeat' (first | (refine AWP.seq ?_) | (refine AWP.region av_ok ?_; conv => whnf) | (refine AWP.ret ?_; conv => whnf) | (refine AWP.skip ?_; conv => whnf) | (refine AWP.exit ?_; conv => whnf) | (refine AWP.block ?_; conv => whnf) | (refine AWP.cond ?_; conv => whnf) | (refine AB.tt ?_; conv => whnf) | (refine AB.ff ?_; conv => whnf) | (refine sz_and (by simp [kindL, kindsL] <;> omega) ?_; conv => whnf) | (exact trivial) | (refine And.intro rfl ?_; conv => whnf) | (refine AB.mk (fun h => ?_) (fun h => ?_) <;> (conv => whnf)) | (with_reducible_and_instances rfl) | (exact (rfl : AP.tup _ = AP.tup _)))
    refine str_eq ?_
    simp [stepTextL, h, stepWords, wordsB, spacedB, kindL, kindsL]
theorem iStepText_9 (a b c : Int) (h : stepOk ⟨9, a, b, c, []⟩ = true) : PCall av 27 [.agg (DStep.ds ⟨9, a, b, c, []⟩)] (rL (stepTextL ⟨9, a, b, c, []⟩)) := by
  have hF := stepOk_facts h
  simp only at hF
  have hn : (!stepOk ⟨9, a, b, c, []⟩) = false := by simp [h]
  have wa : (Lit.int .i64 a).wf = true := i64_wf (by omega) (by omega)
  have wb : (Lit.int .i64 b).wf = true := i64_wf (by omega) (by omega)
  have wc : (Lit.int .i64 c).wf = true := i64_wf (by omega) (by omega)
  have s1 : (spacedB [a]).length ≤ 22 := by simpa using spacedB_len [a] (by simpa using wa)
  have s2 : (spacedB [b]).length ≤ 22 := by simpa using spacedB_len [b] (by simpa using wb)
  have s3 : (spacedB [a, b, c]).length ≤ 66 := by simpa using spacedB_len [a, b, c] (by simp [wa, wb, wc])
  have s4 := nodeWordL_len a
  have s5 := nodeWordL_len b
  refine pcall_of av_ok Tryd.func27 rfl Tryd.call27 Tryd.ntmps27 (congrArg Array.toList Tryd.results27) fun S => ?_; conv => whnf
  repeat' (first | (refine AWP.seq ?_) | (refine AWP.region av_ok ?_; conv => whnf) | (refine AWP.ret ?_; conv => whnf) | (refine AWP.skip ?_; conv => whnf) | (refine AWP.exit ?_; conv => whnf) | (refine AWP.block ?_; conv => whnf) | (refine AWP.cond ?_; conv => whnf) | (refine AB.tt ?_; conv => whnf) | (refine AB.ff ?_; conv => whnf) | (refine ACall.pure (iStepOk_p ⟨9, a, b, c, []⟩) rfl ?_; conv => whnf) | (refine ACall.pure (istepWord_p 9 (by omega) (by omega)) rfl ?_; conv => whnf) | (refine ACall.scalar (ispaced_p [a] (by simpa using wa) (by simp)) rfl rfl ?_; conv => whnf) | (refine ACall.scalar (ispaced_p [a, b, c] (by simp [wa, wb, wc]) (by simp)) rfl rfl ?_; conv => whnf) | (refine ACall.pure (iNodeWord_p a) rfl ?_; conv => whnf) | (refine sz_and (by simp [kindL, kindsL] <;> omega) ?_; conv => whnf) | (refine AB.ofT (by assumption) ?_; conv => whnf) | (refine AB.ofF (by assumption) ?_; conv => whnf) | (exact trivial) | (refine And.intro rfl ?_; conv => whnf) | (refine AB.mk (fun h => ?_) (fun h => ?_) <;> (conv => whnf)) | (with_reducible_and_instances rfl) | (exact (rfl : AP.tup _ = AP.tup _)))
  refine' AWP.draw av_ok 10 [[], [0], [], [2], [2, 3], [3, 2, 4, 0, 1], [1, 0, 4, 2, 3, 5], [], [7], [3, 2, 4, 7, 8], [8, 7, 9, 5, 3, 2, 4, 0, 1, 6], [6, 1, 0, 4, 2, 3, 5, 9, 7, 8, 10]] [(_, _), (_, _), (_, _), (_, _), (_, _), (_, _), (_, _), (_, _), (_, _), (_, _)] ?hD ?hok ?hl ?hf ?hno ?ht
  case hD => kernel_rfl
  case hok => kernel_rfl
  case hl => rfl
  case hf =>
    conv => whnf
    repeat' (first | (refine ⟨rfl, rfl⟩) | exact trivial | (refine AFCall.mk ⟨_, _, iNodeWord_p a, .inl rfl, ?_⟩; conv => whnf) | (refine AFCall.mk ⟨_, _, iNodeWord_p b, .inl rfl, ?_⟩; conv => whnf) | (refine AFCall.mk ⟨_, _, ispaced_p [b] (by simpa using wb) (by simp), .inl rfl, ?_⟩; conv => whnf) | (refine sz_and (by simp [kindL, kindsL] <;> omega) ?_; conv => whnf) | (refine And.intro ?_ ?_ <;> conv => whnf))
  case hno => rfl
  case ht =>
    conv => whnf
    repeat' (first | (refine AWP.seq ?_) | (refine AWP.region av_ok ?_; conv => whnf) | (refine AWP.ret ?_; conv => whnf) | (refine AWP.skip ?_; conv => whnf) | (refine AWP.exit ?_; conv => whnf) | (refine AWP.block ?_; conv => whnf) | (refine AWP.cond ?_; conv => whnf) | (refine AB.tt ?_; conv => whnf) | (refine AB.ff ?_; conv => whnf) | (refine sz_and (by simp [kindL, kindsL] <;> omega) ?_; conv => whnf) | (exact trivial) | (refine And.intro rfl ?_; conv => whnf) | (refine AB.mk (fun h => ?_) (fun h => ?_) <;> (conv => whnf)) | (with_reducible_and_instances rfl) | (exact (rfl : AP.tup _ = AP.tup _)))
    refine str_eq ?_
    simp [stepTextL, h, stepWords, wordsB, spacedB, kindL, kindsL]
theorem iStepText_10 (a b c : Int) (h : stepOk ⟨10, a, b, c, []⟩ = true) : PCall av 27 [.agg (DStep.ds ⟨10, a, b, c, []⟩)] (rL (stepTextL ⟨10, a, b, c, []⟩)) := by
  have hF := stepOk_facts h
  simp only at hF
  have hn : (!stepOk ⟨10, a, b, c, []⟩) = false := by simp [h]
  have wa : (Lit.int .i64 a).wf = true := i64_wf (by omega) (by omega)
  have wb : (Lit.int .i64 b).wf = true := i64_wf (by omega) (by omega)
  have wc : (Lit.int .i64 c).wf = true := i64_wf (by omega) (by omega)
  have s1 : (spacedB [a]).length ≤ 22 := by simpa using spacedB_len [a] (by simpa using wa)
  have s2 : (spacedB [b]).length ≤ 22 := by simpa using spacedB_len [b] (by simpa using wb)
  have s3 : (spacedB [a, b, c]).length ≤ 66 := by simpa using spacedB_len [a, b, c] (by simp [wa, wb, wc])
  have s4 := nodeWordL_len a
  have s5 := nodeWordL_len b
  refine pcall_of av_ok Tryd.func27 rfl Tryd.call27 Tryd.ntmps27 (congrArg Array.toList Tryd.results27) fun S => ?_; conv => whnf
  repeat' (first | (refine AWP.seq ?_) | (refine AWP.region av_ok ?_; conv => whnf) | (refine AWP.ret ?_; conv => whnf) | (refine AWP.skip ?_; conv => whnf) | (refine AWP.exit ?_; conv => whnf) | (refine AWP.block ?_; conv => whnf) | (refine AWP.cond ?_; conv => whnf) | (refine AB.tt ?_; conv => whnf) | (refine AB.ff ?_; conv => whnf) | (refine ACall.pure (iStepOk_p ⟨10, a, b, c, []⟩) rfl ?_; conv => whnf) | (refine ACall.pure (istepWord_p 10 (by omega) (by omega)) rfl ?_; conv => whnf) | (refine ACall.scalar (ispaced_p [a] (by simpa using wa) (by simp)) rfl rfl ?_; conv => whnf) | (refine ACall.scalar (ispaced_p [a, b, c] (by simp [wa, wb, wc]) (by simp)) rfl rfl ?_; conv => whnf) | (refine ACall.pure (iNodeWord_p a) rfl ?_; conv => whnf) | (refine sz_and (by simp [kindL, kindsL] <;> omega) ?_; conv => whnf) | (refine AB.ofT (by assumption) ?_; conv => whnf) | (refine AB.ofF (by assumption) ?_; conv => whnf) | (exact trivial) | (refine And.intro rfl ?_; conv => whnf) | (refine AB.mk (fun h => ?_) (fun h => ?_) <;> (conv => whnf)) | (with_reducible_and_instances rfl) | (exact (rfl : AP.tup _ = AP.tup _)))
  refine' AWP.draw av_ok 10 [[], [0], [], [2], [2, 3], [3, 2, 4, 0, 1], [1, 0, 4, 2, 3, 5], [], [7], [3, 2, 4, 7, 8], [8, 7, 9, 5, 3, 2, 4, 0, 1, 6], [6, 1, 0, 4, 2, 3, 5, 9, 7, 8, 10]] [(_, _), (_, _), (_, _), (_, _), (_, _), (_, _), (_, _), (_, _), (_, _), (_, _)] ?hD ?hok ?hl ?hf ?hno ?ht
  case hD => kernel_rfl
  case hok => kernel_rfl
  case hl => rfl
  case hf =>
    conv => whnf
    repeat' (first | (refine ⟨rfl, rfl⟩) | exact trivial | (refine AFCall.mk ⟨_, _, iNodeWord_p a, .inl rfl, ?_⟩; conv => whnf) | (refine AFCall.mk ⟨_, _, iNodeWord_p b, .inl rfl, ?_⟩; conv => whnf) | (refine AFCall.mk ⟨_, _, ispaced_p [b] (by simpa using wb) (by simp), .inl rfl, ?_⟩; conv => whnf) | (refine sz_and (by simp [kindL, kindsL] <;> omega) ?_; conv => whnf) | (refine And.intro ?_ ?_ <;> conv => whnf))
  case hno => rfl
  case ht =>
    conv => whnf
    repeat' (first | (refine AWP.seq ?_) | (refine AWP.region av_ok ?_; conv => whnf) | (refine AWP.ret ?_; conv => whnf) | (refine AWP.skip ?_; conv => whnf) | (refine AWP.exit ?_; conv => whnf) | (refine AWP.block ?_; conv => whnf) | (refine AWP.cond ?_; conv => whnf) | (refine AB.tt ?_; conv => whnf) | (refine AB.ff ?_; conv => whnf) | (refine sz_and (by simp [kindL, kindsL] <;> omega) ?_; conv => whnf) | (exact trivial) | (refine And.intro rfl ?_; conv => whnf) | (refine AB.mk (fun h => ?_) (fun h => ?_) <;> (conv => whnf)) | (with_reducible_and_instances rfl) | (exact (rfl : AP.tup _ = AP.tup _)))
    refine str_eq ?_
    simp [stepTextL, h, stepWords, wordsB, spacedB, kindL, kindsL]
theorem iStepText_5 (a b c : Int) (f : List Int) (hk : stepOk ⟨5, a, b, c, f⟩ = true) : PCall av 27 [.agg (DStep.ds ⟨5, a, b, c, f⟩)] (rL (stepTextL ⟨5, a, b, c, f⟩)) := by
  have hF := stepOk_facts hk
  simp only at hF
  have hn : (!stepOk ⟨5, a, b, c, f⟩) = false := by simp [hk]
  have s4 := nodeWordL_len a
  have s5 := fateL_len f
  have s6 := fatesB_l hF.2.2.2.2.1
  refine pcall_of av_ok Tryd.func27 rfl Tryd.call27 Tryd.ntmps27 (congrArg Array.toList Tryd.results27) fun S => ?_; conv => whnf
  repeat' (first | (refine AWP.seq ?_) | (refine AWP.region av_ok ?_; conv => whnf) | (refine AWP.ret ?_; conv => whnf) | (refine AWP.skip ?_; conv => whnf) | (refine AWP.exit ?_; conv => whnf) | (refine AWP.block ?_; conv => whnf) | (refine AWP.cond ?_; conv => whnf) | (refine AB.tt ?_; conv => whnf) | (refine AB.ff ?_; conv => whnf) | (refine ACall.pure (iStepOk_p ⟨5, a, b, c, f⟩) rfl ?_; conv => whnf) | (refine ACall.pure (istepWord_p 5 (by omega) (by omega)) rfl ?_; conv => whnf) | (refine ACall.pure (iNodeWord_p a) rfl ?_; conv => whnf) | (refine sz_and (by simp [kindL, kindsL] <;> omega) ?_; conv => whnf) | (refine AB.ofT (by assumption) ?_; conv => whnf) | (refine AB.ofF (by assumption) ?_; conv => whnf) | (exact trivial) | (refine And.intro rfl ?_; conv => whnf) | (refine AB.mk (fun h => ?_) (fun h => ?_) <;> (conv => whnf)) | (with_reducible_and_instances rfl) | (exact (rfl : AP.tup _ = AP.tup _)))
  · have hf0 : f = [] := by simpa using h
    subst hf0
    refine str_eq ?_
    simp [stepTextL, hk, stepWords, wordsB, kindL, kindsL]
  · have hf0 : f ≠ [] := by simpa using h
    refine' AWP.draw av_ok 10 [[], [0], [], [2], [2, 3], [3, 2, 4, 0, 1], [1, 0, 4, 2, 3, 5], [], [7], [3, 2, 4, 7, 8], [8, 7, 9, 5, 3, 2, 4, 0, 1, 6], [6, 1, 0, 4, 2, 3, 5, 9, 7, 8, 10]] [(_, _), (_, _), (_, _), (_, _), (_, _), (_, _), (_, _), (_, _), (_, _), (_, _)] ?hD ?hok ?hl ?hf ?hno ?ht
    case hD => kernel_rfl
    case hok => kernel_rfl
    case hl => rfl
    case hf =>
      conv => whnf
      repeat' (first | (refine ⟨rfl, rfl⟩) | exact trivial | (refine AFCall.mk ⟨_, _, iNodeWord_p a, .inl rfl, ?_⟩; conv => whnf) | (refine AFCall.mk ⟨_, _, ifateWord_p f hF.2.2.2.2.1, .inl rfl, ?_⟩; conv => whnf) | (refine sz_and (by simp [kindL, kindsL] <;> omega) ?_; conv => whnf) | (refine And.intro ?_ ?_ <;> conv => whnf))
    case hno => rfl
    case ht =>
      conv => whnf
      repeat' (first | (refine AWP.seq ?_) | (refine AWP.region av_ok ?_; conv => whnf) | (refine AWP.ret ?_; conv => whnf) | (refine AWP.skip ?_; conv => whnf) | (refine AWP.exit ?_; conv => whnf) | (refine AWP.block ?_; conv => whnf) | (refine AWP.cond ?_; conv => whnf) | (refine AB.tt ?_; conv => whnf) | (refine AB.ff ?_; conv => whnf) | (refine sz_and (by simp [kindL, kindsL] <;> omega) ?_; conv => whnf) | (exact trivial) | (refine And.intro rfl ?_; conv => whnf) | (refine AB.mk (fun h => ?_) (fun h => ?_) <;> (conv => whnf)) | (with_reducible_and_instances rfl) | (exact (rfl : AP.tup _ = AP.tup _)))
      refine str_eq ?_
      simp [stepTextL, hk, hf0, stepWords, wordsB, kindL, kindsL]
theorem iStepText_no (x : DStep) (h : stepOk x = false) : PCall av 27 [.agg x.ds] (rL (stepTextL x)) := by
  have hn : (!stepOk x) = true := by simp [h]
  refine pcall_of av_ok Tryd.func27 rfl Tryd.call27 Tryd.ntmps27 (congrArg Array.toList Tryd.results27) fun S => ?_; conv => whnf
  repeat' (first | (refine AWP.seq ?_) | (refine AWP.region av_ok ?_; conv => whnf) | (refine AWP.ret ?_; conv => whnf) | (refine AWP.skip ?_; conv => whnf) | (refine AWP.exit ?_; conv => whnf) | (refine AWP.block ?_; conv => whnf) | (refine AWP.cond ?_; conv => whnf) | (refine AB.tt ?_; conv => whnf) | (refine AB.ff ?_; conv => whnf) | (refine ACall.pure (iStepOk_p x) rfl ?_; conv => whnf) | (refine AB.ofT (by assumption) ?_; conv => whnf) | (refine AB.ofF (by assumption) ?_; conv => whnf) | (exact trivial) | (refine And.intro rfl ?_; conv => whnf) | (refine AB.mk (fun h => ?_) (fun h => ?_) <;> (conv => whnf)) | (with_reducible_and_instances rfl) | (exact (rfl : AP.tup _ = AP.tup _)))
  simp [stepTextL, h]
theorem iStepText_p (x : DStep) : PCall av 27 [.agg x.ds] (rL (stepTextL x)) := by
  cases h : stepOk x
  · exact iStepText_no x h
  · have hF := stepOk_facts h
    obtain ⟨k, a, b, c, f⟩ := x
    simp only at hF
    rcases kind_cases hF.1.1 hF.1.2 with rfl | rfl | rfl | rfl | rfl | rfl | rfl | rfl | rfl | rfl | rfl
    case inr.inr.inr.inr.inl => exact iStepText_5 a b c f h
    all_goals
      have hf : f = [] := hF.2.2.2.2.2 (by decide)
      subst hf
    · exact iStepText_1 a b c h
    · exact iStepText_2 a b c h
    · exact iStepText_3 a b c h
    · exact iStepText_4 a b c h
    · exact iStepText_6 a b c h
    · exact iStepText_7 a b c h
    · exact iStepText_8 a b c h
    · exact iStepText_9 a b c h
    · exact iStepText_10 a b c h
    · exact iStepText_11 a b c h
end Go.Proofs.YtlhanpkfnhnegaaDoor
