/- Due jobs, clients that are done, ServedIn: both sides. -/
import Derived.Test.YtmgcnmdbhahhlaaGreatWR8
set_option linter.unusedVariables false
set_option linter.unusedSimpArgs false
set_option maxRecDepth 100000
namespace Go.Proofs.YtmgcnmdbhahhlaaGreat
open Go.ChangeShapes Go.WideShapes Go.RowKit

def isDue (t : Int) (d : DDue) : Bool := decide (d.due ≤ t)
def dueN (l : List DDue) (t : Int) : List Int := (l.filter (isDue t)).map (·.id)
theorem dueN_t {l : List DDue} {t : Int} {k : Nat} (hk : k < l.length) (h : decide (l[k].due ≤ t) = true) : (dueN (l.take (k + 1)) t).map eI = (dueN (l.take k) t).map eI ++ [eI l[k].id] := by
  unfold dueN
  rw [filter_snocW _ hk, show isDue t l[k] = true from h]
  simp
theorem dueN_f {l : List DDue} {t : Int} {k : Nat} (hk : k < l.length) (h : decide (l[k].due ≤ t) = false) : (dueN (l.take (k + 1)) t).map eI = (dueN (l.take k) t).map eI := by
  unfold dueN
  rw [filter_snocW _ hk, show isDue t l[k] = false from h]
  simp
theorem dueN_len (l : List DDue) (t : Int) (k : Nat) : (dueN (l.take k) t).length ≤ l.length := by
  unfold dueN
  rw [List.length_map]
  exact filter_lenW _ l k
theorem openI_len (l : List DJob) : (openI l).length ≤ l.length := by
  unfold openI
  rw [isortD_len]
  unfold openD
  rw [List.length_map]
  exact List.length_filter_le _ _
theorem iDueJobs_p (l : List DJob) (t : Int) (h : jobsOk l = true) : PCall av 174 [.one (.sl (l.map DJob.ds)), pI t] (.val (.one (.sl ((dueN (openI l) t).map eI)))) := by
  have h8 := jobs_8 h
  have hn : (!jobsOk l) = false := by rw [h]; rfl
  have hf := openI_len l
  refine pcall_of av_ok Tryz.func174 rfl Tryz.call174 Tryz.ntmps174 (congrArg Array.toList Tryz.results174) fun S => ?_; conv => whnf
  repeat' (first | (refine aw0 ?_) | (refine awx ?_; conv => whnf) | fail | (refine ACall.pure (iJobsOk_p l) rfl ?_; conv => whnf) | (refine AFCall.mk ⟨_, _, iJobsOk_p l, .inl rfl, ?_⟩; conv => whnf) | (refine ACall.pure (iOpenJobs_p l h) rfl ?_; conv => whnf) | (refine AFCall.mk ⟨_, _, iOpenJobs_p l h, .inl rfl, ?_⟩; conv => whnf) | (exact rr) | (refine And.intro rfl ?_; conv => whnf) | (refine AB.mk (fun h => ?_) (fun h => ?_) <;> (conv => whnf)))
  refine AWP.loopS (fun k : Nat => k ≤ (openI l).length) (11 :: [5, 7, 15, 16, 17, 18, 19, 20, 21, 22, 23, 24, 25, 26, 27, 28]) (fun k => [(5, .one (.own 11)), (15, vI .i64 (k : Int))]) (fun k => [(11, .row 2 1 ((dueN ((openI l).take k) t).map eI))]) (fun k => (openI l).length - k) 0 (by omega) ?_ (SubO.cons rfl SubO.nil) (fun k hR => ?_) <;> (conv => whnf)
  · exact whd
  · by_cases hlt : k < (openI l).length
    · have hc : decide ((k : Int) < (((openI l).map DDue.ds).length : Int)) = true := by simp <;> omega
      have hl := dueN_len (openI l) t k
      cases hb : decide ((openI l)[k].due ≤ t) with
      | true =>
        repeat' (first | (refine aw0 ?_) | (refine awx ?_; conv => whnf) | fail | (refine AIx.map hlt ?_; conv => whnf) | (refine sz_appW (by simp <;> omega) ?_; conv => whnf) | (refine AW.i64 (by omega) (by omega) ?_; conv => whnf) | (exact rr) | (refine And.intro rfl ?_; conv => whnf) | (refine AB.mk (fun h => ?_) (fun h => ?_) <;> (conv => whnf)))
        refine ANext.mk ⟨k + 1, hlt, by omega, ?_, SubO.cons (congrArg some (congrArg (AO.row 2 1) (dueN_t hlt hb).symm)) SubO.nil⟩
        exact hds
      | false =>
        repeat' (first | (refine aw0 ?_) | (refine awx ?_; conv => whnf) | fail | (refine AIx.map hlt ?_; conv => whnf) | (refine AW.i64 (by omega) (by omega) ?_; conv => whnf) | (exact rr) | (refine And.intro rfl ?_; conv => whnf) | (refine AB.mk (fun h => ?_) (fun h => ?_) <;> (conv => whnf)))
        refine ANext.mk ⟨k + 1, hlt, by omega, ?_, SubO.cons (congrArg some (congrArg (AO.row 2 1) (dueN_f hlt hb).symm)) SubO.nil⟩
        exact hds
    · have hc : decide ((k : Int) < (((openI l).map DDue.ds).length : Int)) = false := by simp <;> omega
      have e : (openI l).take k = openI l := List.take_of_length_le (by omega)
      rw [e]
      repeat' (first | (refine aw0 ?_) | (refine awx ?_; conv => whnf) | fail | (exact rr) | (refine And.intro rfl ?_; conv => whnf) | (refine AB.mk (fun h => ?_) (fun h => ?_) <;> (conv => whnf)))
theorem sDueJobs_p (l : List DJob) (t : Int) (h : jobsOk l = true) : PCall av 97 [.one (.sl (l.map DJob.ds)), pI t] (.val (.one (.sl ((dueN (openS l) t).map eI)))) := by
  have h8 := jobs_8 h
  have hf : (openS l).length ≤ 8 := by have := openS_len l l.length (Nat.le_refl _); rw [List.take_length] at this; omega
  refine pcall_of av_ok Tryz.func97 rfl Tryz.call97 Tryz.ntmps97 (congrArg Array.toList Tryz.results97) fun S => ?_; conv => whnf
  repeat' (first | (refine aw0 ?_) | (refine awx ?_; conv => whnf) | fail | (refine ACall.pure (sOpenJobs_p l h) rfl ?_; conv => whnf) | (refine AFCall.mk ⟨_, _, sOpenJobs_p l h, .inl rfl, ?_⟩; conv => whnf) | (exact rr) | (refine And.intro rfl ?_; conv => whnf) | (refine AB.mk (fun h => ?_) (fun h => ?_) <;> (conv => whnf)))
  refine AWP.loopS (fun k : Nat => k ≤ (openS l).length) (8 :: [5, 7, 11, 12, 13, 14, 15, 16, 17, 18, 19, 20, 21, 22, 23, 24, 25, 26, 27, 28, 29, 30, 31]) (fun k => [(5, .one (.own 8)), (7, vI .i64 (k : Int))]) (fun k => [(8, .row 2 1 ((dueN ((openS l).take k) t).map eI))]) (fun k => (openS l).length - k) 0 (by omega) ?_ (SubO.cons rfl SubO.nil) (fun k hR => ?_) <;> (conv => whnf)
  · exact whd
  · by_cases hlt : k < (openS l).length
    · have hc : decide ((k : Int) < (((openS l).map DDue.ds).length : Int)) = true := by simp <;> omega
      have hl := dueN_len (openS l) t k
      cases hb : decide ((openS l)[k].due ≤ t) with
      | true =>
        repeat' (first | (refine aw0 ?_) | (refine awx ?_; conv => whnf) | fail | (refine AIx.map hlt ?_; conv => whnf) | (refine sz_appW (by simp <;> omega) ?_; conv => whnf) | (refine AW.i64 (by omega) (by omega) ?_; conv => whnf) | (exact rr) | (refine And.intro rfl ?_; conv => whnf) | (refine AB.mk (fun h => ?_) (fun h => ?_) <;> (conv => whnf)))
        refine ANext.mk ⟨k + 1, hlt, by omega, ?_, SubO.cons (congrArg some (congrArg (AO.row 2 1) (dueN_t hlt hb).symm)) SubO.nil⟩
        exact hds
      | false =>
        repeat' (first | (refine aw0 ?_) | (refine awx ?_; conv => whnf) | fail | (refine AIx.map hlt ?_; conv => whnf) | (refine AW.i64 (by omega) (by omega) ?_; conv => whnf) | (exact rr) | (refine And.intro rfl ?_; conv => whnf) | (refine AB.mk (fun h => ?_) (fun h => ?_) <;> (conv => whnf)))
        refine ANext.mk ⟨k + 1, hlt, by omega, ?_, SubO.cons (congrArg some (congrArg (AO.row 2 1) (dueN_f hlt hb).symm)) SubO.nil⟩
        exact hds
    · have hc : decide ((k : Int) < (((openS l).map DDue.ds).length : Int)) = false := by simp <;> omega
      have e : (openS l).take k = openS l := List.take_of_length_le (by omega)
      rw [e]
      repeat' (first | (refine aw0 ?_) | (refine awx ?_; conv => whnf) | fail | (exact rr) | (refine And.intro rfl ?_; conv => whnf) | (refine AB.mk (fun h => ?_) (fun h => ?_) <;> (conv => whnf)))
end Go.Proofs.YtmgcnmdbhahhlaaGreat
