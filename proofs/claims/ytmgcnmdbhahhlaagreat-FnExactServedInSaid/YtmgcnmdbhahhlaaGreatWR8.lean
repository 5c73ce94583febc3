/- slices.SortFunc at due dates (at most eight). -/
import Derived.Test.YtmgcnmdbhahhlaaGreatWR7
set_option linter.unusedVariables false
set_option linter.unusedSimpArgs false
set_option maxRecDepth 100000
namespace Go.Proofs.YtmgcnmdbhahhlaaGreat
open Go.ChangeShapes Go.WideShapes Go.RowKit

def bLen (n : Int) : Int := if n = 0 then 0 else if n = 1 then 1 else if n ≤ 3 then 2 else if n ≤ 7 then 3 else 4
theorem len64_p (n : Int) (h : n = 0 ∨ n = 1 ∨ n = 2 ∨ n = 3 ∨ n = 4 ∨ n = 5 ∨ n = 6 ∨ n = 7 ∨ n = 8) : PCall av 372 [.one (.pv (.int .u64 n))] (.val (pI (bLen n))) := by
  rcases h with rfl | rfl | rfl | rfl | rfl | rfl | rfl | rfl | rfl
  all_goals
    refine pcall_of av_ok Tryz.func372 rfl Tryz.call372 Tryz.ntmps372 (congrArg Array.toList Tryz.results372) fun S => ?_; conv => whnf
    repeat' (first | (refine aw0 ?_) | (refine awx ?_; conv => whnf) | fail | (refine AW.i64 (by decide) (by decide) ?_; conv => whnf) | ((first | refine AW.as 0 (by decide) ?_ | refine AW.as 1 (by decide) ?_ | refine AW.as 2 (by decide) ?_ | refine AW.as 3 (by decide) ?_ | refine AW.as 4 (by decide) ?_ | refine AW.as 5 (by decide) ?_ | refine AW.as 6 (by decide) ?_ | refine AW.as 7 (by decide) ?_ | refine AW.as 8 (by decide) ?_); conv => whnf) | ((first | refine ⟨0, _, rfl, rfl, ?_⟩ | refine ⟨1, _, rfl, rfl, ?_⟩ | refine ⟨2, _, rfl, rfl, ?_⟩ | refine ⟨3, _, rfl, rfl, ?_⟩ | refine ⟨4, _, rfl, rfl, ?_⟩ | refine ⟨5, _, rfl, rfl, ?_⟩ | refine ⟨6, _, rfl, rfl, ?_⟩ | refine ⟨7, _, rfl, rfl, ?_⟩ | refine ⟨8, _, rfl, rfl, ?_⟩); conv => whnf) | (exact rr) | (refine And.intro rfl ?_; conv => whnf) | (refine AB.mk (fun h => ?_) (fun h => ?_) <;> (conv => whnf)))
    all_goals first | rfl | kernel_rfl
theorem len_p (n : Int) (h : n = 0 ∨ n = 1 ∨ n = 2 ∨ n = 3 ∨ n = 4 ∨ n = 5 ∨ n = 6 ∨ n = 7 ∨ n = 8) : PCall av 349 [.one (.pv (.int .u64 n))] (.val (pI (bLen n))) := by
  refine pcall_of av_ok Tryz.func349 rfl Tryz.call349 Tryz.ntmps349 (congrArg Array.toList Tryz.results349) fun S => ?_; conv => whnf
  repeat' (first | (refine aw0 ?_) | (refine awx ?_; conv => whnf) | fail | (refine AW.i64 (by decide) (by decide) ?_; conv => whnf) | (refine ACall.pure (len64_p n h) rfl ?_; conv => whnf) | (refine AFCall.mk ⟨_, _, len64_p n h, .inl rfl, ?_⟩; conv => whnf) | (exact rr) | (refine And.intro rfl ?_; conv => whnf) | (refine AB.mk (fun h => ?_) (fun h => ?_) <;> (conv => whnf)))
theorem pdq_r (l : List DDue) (h8 : l.length ≤ 8) (r : Int) : RCall av 348 233 2 (l.map DDue.ds) ((isortD l (l.length - 1)).map DDue.ds) [pI 0, pI (l.length : Int), pI r, .one (.pv (.func (.func 298) #[] #[]))] := by
  have hc : decide ((l.length : Int) - 0 ≤ 12) = true := by simp <;> omega
  refine rcall_of av_ok Tryz.func348 rfl Tryz.call348 Tryz.ntmps348 (congrArg Array.toList Tryz.results348) (fun x hx => by obtain ⟨a, _, rfl⟩ := List.mem_map.1 hx; rfl) fun S v => ?_; conv => whnf
  repeat' (first | (refine aw0 ?_) | (refine awx ?_; conv => whnf) | fail | (refine AW.i64 (by decide) (by decide) ?_; conv => whnf) | (exact rr) | (refine And.intro rfl ?_; conv => whnf) | (refine AB.mk (fun h => ?_) (fun h => ?_) <;> (conv => whnf)))
  refine AWP.unroll 1 ?_
  conv => whnf
  repeat' (first | (refine aw0 ?_) | (refine awx ?_; conv => whnf) | fail | (refine AW.i64 (by omega) (by omega) ?_; conv => whnf) | (exact rr) | (refine And.intro rfl ?_; conv => whnf) | (refine AB.mk (fun h => ?_) (fun h => ?_) <;> (conv => whnf)) | (refine ACall.row (insertD_r l h8) rfl rfl ?_; conv => whnf))
theorem upTo8 {n : Nat} (h : n ≤ 8) : (n : Int) = 0 ∨ (n : Int) = 1 ∨ (n : Int) = 2 ∨ (n : Int) = 3 ∨ (n : Int) = 4 ∨ (n : Int) = 5 ∨ (n : Int) = 6 ∨ (n : Int) = 7 ∨ (n : Int) = 8 := by omega
theorem wrapU {n : Int} (h : n = 0 ∨ n = 1 ∨ n = 2 ∨ n = 3 ∨ n = 4 ∨ n = 5 ∨ n = 6 ∨ n = 7 ∨ n = 8) : IntKind.u64.wrap n = n := by
  rcases h with rfl | rfl | rfl | rfl | rfl | rfl | rfl | rfl | rfl <;> decide
theorem pdq_m (l : List DDue) (h8 : l.length ≤ 8) (r : Int) : RCall av 348 233 2 (l.map DDue.ds) ((isortD l (l.length - 1)).map DDue.ds) [pI 0, pI ((l.map DDue.ds).length : Int), pI r, .one (.pv (.func (.func 298) #[] #[]))] := by
  rw [List.length_map]; exact pdq_r l h8 r
theorem sort_r (l : List DDue) (h8 : l.length ≤ 8) : RCall av 297 233 2 (l.map DDue.ds) ((isortD l (l.length - 1)).map DDue.ds) [.one (.pv (.func (.func 298) #[] #[]))] := by
  have hn := upTo8 (show (l.map DDue.ds).length ≤ 8 by simpa using h8)
  refine rcall_of av_ok Tryz.func297 rfl Tryz.call297 Tryz.ntmps297 (congrArg Array.toList Tryz.results297) (fun x hx => by obtain ⟨a, _, rfl⟩ := List.mem_map.1 hx; rfl) fun S v => ?_; conv => whnf
  repeat' (first | (refine aw0 ?_) | (refine awx ?_; conv => whnf) | fail | (refine AW.i64 (by decide) (by decide) ?_; conv => whnf) | (refine AW.as ((l.map DDue.ds).length : Int) (wrapU hn) ?_; conv => whnf) | (refine ACall.pure (len_p _ hn) rfl ?_; conv => whnf) | (refine AFCall.mk ⟨_, _, len_p _ hn, .inl rfl, ?_⟩; conv => whnf) | (refine ACall.row (pdq_m l h8 _) rfl rfl ?_; conv => whnf) | (exact rr) | (refine And.intro rfl ?_; conv => whnf) | (refine AB.mk (fun h => ?_) (fun h => ?_) <;> (conv => whnf)))
def dOf (j : DJob) : DDue := ⟨j.id, j.due⟩
/-- The open jobs, sorted by the program. -/
def openD (l : List DJob) : List DDue := (l.filter isOpen).map dOf
def openI (l : List DJob) : List DDue := isortD (openD l) ((openD l).length - 1)
theorem dOf_snoc {l : List DJob} {k : Nat} (hk : k < l.length) : ((l.take (k + 1)).map dOf).map DDue.ds = ((l.take k).map dOf).map DDue.ds ++ [(dOf l[k]).ds] := by
  rw [take_snocM hk, List.map_append, List.map_append]; rfl
theorem iOpenJobs_p (l : List DJob) (h : jobsOk l = true) : PCall av 241 [.one (.sl (l.map DJob.ds))] (.val (.one (.sl ((openI l).map DDue.ds)))) := by
  have h8 := jobs_8 h
  have hn : (!jobsOk l) = false := by rw [h]; rfl
  have hf : (l.filter isOpen).length ≤ 8 := by have := List.length_filter_le isOpen l; omega
  have ho : (openD l).length ≤ 8 := by unfold openD; rw [List.length_map]; exact hf
  refine pcall_of av_ok Tryz.func241 rfl Tryz.call241 Tryz.ntmps241 (congrArg Array.toList Tryz.results241) fun S => ?_; conv => whnf
  repeat' (first | (refine aw0 ?_) | (refine awx ?_; conv => whnf) | fail | (refine ACall.pure (iJobsOk_p l) rfl ?_; conv => whnf) | (refine AFCall.mk ⟨_, _, iJobsOk_p l, .inl rfl, ?_⟩; conv => whnf) | (refine ACall.pure (ichosen_openp l h8) rfl ?_; conv => whnf) | (refine AFCall.mk ⟨_, _, ichosen_openp l h8, .inl rfl, ?_⟩; conv => whnf) | (exact rr) | (refine And.intro rfl ?_; conv => whnf) | (refine AB.mk (fun h => ?_) (fun h => ?_) <;> (conv => whnf)))
  refine AWP.loopS (fun k : Nat => k ≤ (l.filter isOpen).length) (9 :: [3, 5, 13, 14, 15, 16, 17, 18, 19, 20, 21, 22, 23, 24, 25]) (fun k => [(3, .one (.own 9)), (13, vI .i64 (k : Int))]) (fun k => [(9, .row 233 2 ((((l.filter isOpen).take k).map dOf).map DDue.ds))]) (fun k => (l.filter isOpen).length - k) 0 (by omega) ?_ (SubO.cons rfl SubO.nil) (fun k hR => ?_) <;> (conv => whnf)
  · exact whd
  · by_cases hlt : k < (l.filter isOpen).length
    · have hc : decide ((k : Int) < (((l.filter isOpen).map DJob.ds).length : Int)) = true := by simp <;> omega
      repeat' (first | (refine aw0 ?_) | (refine awx ?_; conv => whnf) | fail | (refine AIx.map hlt ?_; conv => whnf) | (refine sz_appW (by simp <;> omega) ?_; conv => whnf) | (refine AW.i64 (by omega) (by omega) ?_; conv => whnf) | (exact rr) | (refine And.intro rfl ?_; conv => whnf) | (refine AB.mk (fun h => ?_) (fun h => ?_) <;> (conv => whnf)))
      refine ANext.mk ⟨k + 1, hlt, by omega, ?_, SubO.cons (congrArg some (congrArg (AO.row 233 2) (dOf_snoc hlt).symm)) SubO.nil⟩
      exact hds
    · have hc : decide ((k : Int) < (((l.filter isOpen).map DJob.ds).length : Int)) = false := by simp <;> omega
      have e : (l.filter isOpen).take k = l.filter isOpen := List.take_of_length_le (by omega)
      rw [e]
      repeat' (first | (refine aw0 ?_) | (refine awx ?_; conv => whnf) | fail | (refine ACall.row (sort_r (openD l) ho) rfl rfl ?_; conv => whnf) | (exact rr) | (refine And.intro rfl ?_; conv => whnf) | (refine AB.mk (fun h => ?_) (fun h => ?_) <;> (conv => whnf)))
      rfl
end Go.Proofs.YtmgcnmdbhahhlaaGreat
