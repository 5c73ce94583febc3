/- Open jobs: both sides; StoreReport. -/
import Derived.Test.YtmgcnmdbhahhlaaGreatJ13
import Derived.Test.YtmgcnmdbhahhlaaGreatAwx
import Derived.Test.YtmgcnmdbhahhlaaGreatAvFZ
set_option linter.unusedVariables false
set_option linter.unusedSimpArgs false
set_option maxRecDepth 100000
namespace Go.Proofs.YtmgcnmdbhahhlaaGreat
open Go.ChangeShapes Go.WideShapes Go.RowKit
def dk_WR4_spec_OpenJobs_9 : List (List Nat) := unqs [0, 1, 129, 12354, 12354, 1318979, 4328796549, 486506500228, 35461415067975, 12354, 12354, 168300747, 13070241930, 904124445388, 2753515566257255295791757, 58341237505289536560189897]
def fk_WR4_spec_OpenJobs_9 : List (List Nat) := unps 14 [0, 1, 4, 4763947, 4763353, 4763434, 4763650, 4764379, 4766566, 137767, 59035, 98401, 275548, 806989]
def dk_WR4_spec_OpenJobs_12 : List (List Nat) := unqs [0, 0, 0, 131, 16578, 1319108, 0, 0, 456, 37383, 2650633, 109225628097872330, 14017208179956920582, 5688587614900805726860, 4288654853356305658176321]
def fk_WR4_spec_OpenJobs_12 : List (List Nat) := unps 13 [1594320, 176438, 176426, 176432, 176459, 176540, 5102, 2186, 3644, 10205, 29888, 88574, 265721]

theorem len_m {α : Type} {l : List α} {enc : α → List AD} {s : Nat} (h : ∀ a, (enc a).length = s) : ∀ y ∈ l.map enc, y.length = s := fun y hy => by
  obtain ⟨a, _, rfl⟩ := List.mem_map.1 hy
  exact h a
theorem len_td {α : Type} {l : List α} {enc : α → List AD} {s a b : Nat} (h : ∀ a, (enc a).length = s) : ∀ y ∈ ((l.map enc).take b).drop a, y.length = s := fun y hy =>
  len_m h y (List.mem_of_mem_take (List.mem_of_mem_drop hy))
def opK (out : List DDue) (d : Int) : Nat → Nat
  | 0 => 0
  | k + 1 => if (out.getD k ⟨0, 0⟩).due > d then opK out d k else k + 1
theorem opK_le (out : List DDue) (d : Int) : ∀ k, opK out d k ≤ k
  | 0 => Nat.le_refl _
  | k + 1 => by
    simp only [opK]
    split
    · exact Nat.le_succ_of_le (opK_le out d k)
    · exact Nat.le_refl _
def opIns (out : List DDue) (j : DJob) : List DDue := (out.take (opK out j.due out.length) ++ [⟨j.id, j.due⟩]) ++ out.drop (opK out j.due out.length)
def openS (l : List DJob) : List DDue := l.foldl (fun out j => if j.fired > 0 then out else opIns out j) []
theorem openS_snoc (l : List DJob) {k : Nat} (hk : k < l.length) : openS (l.take (k + 1)) = if l[k].fired > 0 then openS (l.take k) else opIns (openS (l.take k)) l[k] := by
  unfold openS
  rw [take_snocM hk, List.foldl_append]
  rfl
theorem opIns_len (out : List DDue) (j : DJob) : (opIns out j).length = out.length + 1 := by
  have := opK_le out j.due out.length
  simp [opIns]
  omega
theorem openS_len (l : List DJob) : ∀ k, k ≤ l.length → (openS (l.take k)).length ≤ k
  | 0, _ => by simp [openS]
  | k + 1, hk => by
    have h := openS_len l k (by omega)
    rw [openS_snoc l (by omega)]
    split
    · omega
    · rw [opIns_len]; omega
theorem jobs_8 {l : List DJob} (h : jobsOk l = true) : l.length ≤ 8 := by
  simp only [jobsOk, Bool.and_eq_true, decide_eq_true_eq] at h
  omega
theorem AW.i64e {n : Int} {K : Int → Prop} (c : Int) (e : n = c) (h1 : -9223372036854775808 ≤ c) (h2 : c ≤ 9223372036854775807) (hk : K c) : AW .i64 n K := by
  subst e
  exact AW.i64 h1 h2 hk
theorem ins_eq (out : List DDue) (d : DJob) (j : Nat) (hj : opK out d.due out.length = j) :
    (([] ++ ((out.map DDue.ds).take j).drop 0) ++ [[dI d.id, dI d.due]]) ++ ((out.map DDue.ds).take (out.map DDue.ds).length).drop j = (opIns out d).map DDue.ds := by
  subst hj
  simp [opIns, List.map_append, List.map_take, List.map_drop]
  exact ⟨rfl, by rw [List.take_of_length_le (by simp)]⟩
theorem sOpenJobs_p (l : List DJob) (h : jobsOk l = true) : PCall av 84 [.one (.sl (l.map DJob.ds))] (.val (.one (.sl ((openS l).map DDue.ds)))) := by
  have hn : (!jobsOk l) = false := by rw [h]; rfl
  have h8 := jobs_8 h
  refine pcall_of av_ok Tryz.func84 rfl Tryz.call84 Tryz.ntmps84 (congrArg Array.toList Tryz.results84) fun S => ?_; conv => whnf
  repeat' (first | (refine aw0 ?_) | (refine awx ?_; conv => whnf) | fail | (refine ACall.pure (sJobsOk_p l) rfl ?_; conv => whnf) | (refine AFCall.mk ⟨_, _, sJobsOk_p l, .inl rfl, ?_⟩; conv => whnf) | (exact rr) | (refine And.intro rfl ?_; conv => whnf) | (refine AB.mk (fun h => ?_) (fun h => ?_) <;> (conv => whnf)))
  refine AWP.freeze 7 233 2 [] rfl ?_
  conv => whnf
  refine AWP.loopS (fun k : Nat => k ≤ l.length) [3, 4, 5, 6, 12, 13, 14, 15, 16, 17, 18, 19, 20, 21, 22, 23, 24, 25, 26, 27, 28, 29, 30, 31, 32, 33, 34, 35, 36, 37, 38, 39, 40, 41, 42, 43, 44, 45, 46, 47, 48, 49, 50, 51, 52, 53, 54, 55, 56, 57, 58, 59, 60, 61, 62, 63, 64, 65, 66, 67] (fun k => [(3, .one (.d (.sl ((openS (l.take k)).map DDue.ds)))), (4, vI .i64 (k : Int))]) (fun _ => []) (fun k => l.length - k) 0 (by omega) ?_ SubO.nil (fun k hR => ?_) <;> (conv => whnf)
  · exact whd
  · by_cases hlt : k < l.length
    · have hlen := openS_len l k (by omega)
      have hc : decide ((k : Int) < ((l.map DJob.ds).length : Int)) = true := by simp; omega
      have hsn := openS_snoc l hlt
      generalize hout : openS (l.take k) = out at hlen hsn ⊢
      cases hf : decide (l[k].fired > 0) with
      | true =>
        rw [if_pos (of_decide_eq_true hf)] at hsn
        repeat' (first | (refine aw0 ?_) | (refine awx ?_; conv => whnf) | fail | (refine AIx.map hlt ?_; conv => whnf) | (refine AW.i64 (by omega) (by omega) ?_; conv => whnf) | (exact rr) | (refine And.intro rfl ?_; conv => whnf) | (refine AB.mk (fun h => ?_) (fun h => ?_) <;> (conv => whnf)))
        refine ANext.mk ⟨k + 1, hlt, by omega, ?_, SubO.nil⟩
        simp only [hsn]
        exact hds
      | false =>
        rw [if_neg (of_decide_eq_false hf)] at hsn
        repeat' (first | (refine aw0 ?_) | (refine awx ?_; conv => whnf) | fail | (refine AIx.map hlt ?_; conv => whnf) | (refine AW.i64 (by omega) (by omega) ?_; conv => whnf) | (exact rr) | (refine And.intro rfl ?_; conv => whnf) | (refine AB.mk (fun h => ?_) (fun h => ?_) <;> (conv => whnf)))
        have hm : (out.map DDue.ds).length = out.length := by simp
        refine AWP.loopS (fun j : Nat => j ≤ (out.map DDue.ds).length ∧ opK out l[k].due out.length = opK out l[k].due j) [5, 26, 27, 28, 29, 30, 31, 32, 33, 34, 35, 36, 37, 38, 39, 40, 41, 42, 43] (fun j => [(5, vI .i64 (j : Int))]) (fun _ => []) (fun j => j) (out.map DDue.ds).length ⟨Nat.le_refl _, by rw [hm]⟩ ?_ SubO.nil (fun j hJ => ?_) <;> (conv => whnf)
        · exact whd
        · obtain ⟨hj, hk⟩ := hJ
          rcases j with _ | m
          · have b1 : decide (((0 : Nat) : Int) > 0) = false := rfl
            have hk0 : opK out l[k].due out.length = 0 := hk
            repeat' (first | (refine aw0 ?_) | (refine awx ?_; conv => whnf))
            (refine AWP.drawK av_ok 9 14 dk_WR4_spec_OpenJobs_9 fk_WR4_spec_OpenJobs_9 (by kernel_rfl) (by kernel_rfl) (by kernel_rfl) rfl ?_; conv => whnf)
            repeat' (first | (refine AWP.freeze 44 233 2 ((opIns out l[k]).map DDue.ds) (congrArg (AO.row 233 2) (ins_eq out l[k] 0 hk0)) ?_; conv => whnf) | (refine aw0 ?_) | (refine awx ?_; conv => whnf) | fail | (refine ⟨0, 0, rfl, rfl, Nat.zero_le _, hj, len_m (fun _ => rfl), ?_⟩; conv => whnf) | (refine ⟨0, (out.map DDue.ds).length, rfl, rfl, hj, Nat.le_refl _, len_m (fun _ => rfl), ?_⟩; conv => whnf) | (refine all_lenW (len_td (fun _ => rfl)) ?_; conv => whnf) | (refine all_lenW (by simp) ?_; conv => whnf) | (refine sz_appW (by simp <;> omega) ?_; conv => whnf) | (refine AIx.map hlt ?_; conv => whnf) | (refine AW.i64 (by omega) (by omega) ?_; conv => whnf) | (exact rr) | (refine And.intro rfl ?_; conv => whnf) | (refine AB.mk (fun h => ?_) (fun h => ?_) <;> (conv => whnf)))
            (refine AWP.drawK av_ok 12 13 dk_WR4_spec_OpenJobs_12 fk_WR4_spec_OpenJobs_12 (by kernel_rfl) (by kernel_rfl) (by kernel_rfl) rfl ?_; conv => whnf)
            repeat' (first | (refine AWP.freeze 44 233 2 ((opIns out l[k]).map DDue.ds) (congrArg (AO.row 233 2) (ins_eq out l[k] 0 hk0)) ?_; conv => whnf) | (refine aw0 ?_) | (refine awx ?_; conv => whnf) | fail | (refine ⟨0, 0, rfl, rfl, Nat.zero_le _, hj, len_m (fun _ => rfl), ?_⟩; conv => whnf) | (refine ⟨0, (out.map DDue.ds).length, rfl, rfl, hj, Nat.le_refl _, len_m (fun _ => rfl), ?_⟩; conv => whnf) | (refine all_lenW (len_td (fun _ => rfl)) ?_; conv => whnf) | (refine all_lenW (by simp) ?_; conv => whnf) | (refine sz_appW (by simp <;> omega) ?_; conv => whnf) | (refine AIx.map hlt ?_; conv => whnf) | (refine AW.i64 (by omega) (by omega) ?_; conv => whnf) | (exact rr) | (refine And.intro rfl ?_; conv => whnf) | (refine AB.mk (fun h => ?_) (fun h => ?_) <;> (conv => whnf)))
            refine ANext.mk ⟨k + 1, hlt, by omega, ?_, SubO.nil⟩
            simp only [hsn]
            exact hds
          · have b1 : decide (((m + 1 : Nat) : Int) > 0) = true := by simp <;> omega
            have hmo : m < out.length := by omega
            have hget : out.getD m ⟨0, 0⟩ = out[m] := by simp [List.getD_eq_getElem?_getD, hmo]
            cases b2 : decide (out[m].due > l[k].due) with
            | true =>
              have hk2 : opK out l[k].due out.length = opK out l[k].due m := by
                rw [hk]
                simp only [opK, hget]
                rw [if_pos (of_decide_eq_true b2)]
              repeat' (first | (refine aw0 ?_) | (refine awx ?_; conv => whnf))
              (refine AWP.drawK av_ok 9 14 dk_WR4_spec_OpenJobs_9 fk_WR4_spec_OpenJobs_9 (by kernel_rfl) (by kernel_rfl) (by kernel_rfl) rfl ?_; conv => whnf)
              repeat' (first | (refine aw0 ?_) | (refine awx ?_; conv => whnf) | fail | (refine AIx.map hmo ?_; conv => whnf) | (refine AIx.map hlt ?_; conv => whnf) | (refine AW.i64e (m : Int) (by omega) (by omega) (by omega) ?_; conv => whnf) | (exact rr) | (refine And.intro rfl ?_; conv => whnf) | (refine AB.mk (fun h => ?_) (fun h => ?_) <;> (conv => whnf)))
              refine ANext.mk ⟨m, ⟨by omega, hk2⟩, by omega, ?_, SubO.nil⟩
              exact hds
            | false =>
              have hk2 : opK out l[k].due out.length = m + 1 := by
                rw [hk]
                simp only [opK, hget]
                rw [if_neg (of_decide_eq_false b2)]
              repeat' (first | (refine aw0 ?_) | (refine awx ?_; conv => whnf))
              (refine AWP.drawK av_ok 9 14 dk_WR4_spec_OpenJobs_9 fk_WR4_spec_OpenJobs_9 (by kernel_rfl) (by kernel_rfl) (by kernel_rfl) rfl ?_; conv => whnf)
              repeat' (first | (refine aw0 ?_) | (refine awx ?_; conv => whnf) | fail | (refine AIx.map hmo ?_; conv => whnf) | (refine AIx.map hlt ?_; conv => whnf) | (refine AW.i64e (m : Int) (by omega) (by omega) (by omega) ?_; conv => whnf) | (exact rr) | (refine And.intro rfl ?_; conv => whnf) | (refine AB.mk (fun h => ?_) (fun h => ?_) <;> (conv => whnf)))
              repeat' (first | (refine AWP.freeze 44 233 2 ((opIns out l[k]).map DDue.ds) (congrArg (AO.row 233 2) (ins_eq out l[k] (m + 1) hk2)) ?_; conv => whnf) | (refine aw0 ?_) | (refine awx ?_; conv => whnf) | fail | (refine ⟨0, (m + 1), rfl, rfl, Nat.zero_le _, hj, len_m (fun _ => rfl), ?_⟩; conv => whnf) | (refine ⟨(m + 1), (out.map DDue.ds).length, rfl, rfl, hj, Nat.le_refl _, len_m (fun _ => rfl), ?_⟩; conv => whnf) | (refine all_lenW (len_td (fun _ => rfl)) ?_; conv => whnf) | (refine all_lenW (by simp) ?_; conv => whnf) | (refine sz_appW (by simp <;> omega) ?_; conv => whnf) | (refine AIx.map hlt ?_; conv => whnf) | (refine AW.i64 (by omega) (by omega) ?_; conv => whnf) | (exact rr) | (refine And.intro rfl ?_; conv => whnf) | (refine AB.mk (fun h => ?_) (fun h => ?_) <;> (conv => whnf)))
              (refine AWP.drawK av_ok 12 13 dk_WR4_spec_OpenJobs_12 fk_WR4_spec_OpenJobs_12 (by kernel_rfl) (by kernel_rfl) (by kernel_rfl) rfl ?_; conv => whnf)
              repeat' (first | (refine AWP.freeze 44 233 2 ((opIns out l[k]).map DDue.ds) (congrArg (AO.row 233 2) (ins_eq out l[k] (m + 1) hk2)) ?_; conv => whnf) | (refine aw0 ?_) | (refine awx ?_; conv => whnf) | fail | (refine ⟨0, (m + 1), rfl, rfl, Nat.zero_le _, hj, len_m (fun _ => rfl), ?_⟩; conv => whnf) | (refine ⟨(m + 1), (out.map DDue.ds).length, rfl, rfl, hj, Nat.le_refl _, len_m (fun _ => rfl), ?_⟩; conv => whnf) | (refine all_lenW (len_td (fun _ => rfl)) ?_; conv => whnf) | (refine all_lenW (by simp) ?_; conv => whnf) | (refine sz_appW (by simp <;> omega) ?_; conv => whnf) | (refine AIx.map hlt ?_; conv => whnf) | (refine AW.i64 (by omega) (by omega) ?_; conv => whnf) | (exact rr) | (refine And.intro rfl ?_; conv => whnf) | (refine AB.mk (fun h => ?_) (fun h => ?_) <;> (conv => whnf)))
              refine ANext.mk ⟨k + 1, hlt, by omega, ?_, SubO.nil⟩
              simp only [hsn]
              exact hds
    · have hc : decide ((k : Int) < ((l.map DJob.ds).length : Int)) = false := by simp [show k = l.length by omega]
      have e : l.take k = l := List.take_of_length_le (by omega)
      repeat' (first | (refine aw0 ?_) | (refine awx ?_; conv => whnf) | fail | (exact rr) | (refine And.intro rfl ?_; conv => whnf) | (refine AB.mk (fun h => ?_) (fun h => ?_) <;> (conv => whnf)))
      all_goals rw [e]
end Go.Proofs.YtmgcnmdbhahhlaaGreat
