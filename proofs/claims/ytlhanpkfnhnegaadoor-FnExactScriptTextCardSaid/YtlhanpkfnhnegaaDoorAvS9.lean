/- Scripts as text: the program. -/
import Derived.Test.YtlhanpkfnhnegaaDoorAvS8
import Derived.Test.YtlhanpkfnhnegaaDoorAvV2
set_option linter.unusedVariables false
set_option linter.unusedSimpArgs false
set_option maxRecDepth 100000
namespace Go.Proofs.YtlhanpkfnhnegaaDoor
open Go.ChangeShapes Go.WideShapes Go.RowKit

theorem strDs_app (a b : ByteArray) : strDs (a ++ b) = strDs a ++ strDs b := by simp [strDs]
theorem sz_line (a : List UInt8) : ((⟨a.toArray⟩ : ByteArray) ++ ⟨#[10]⟩).size = a.length + 1 := by
  rw [ByteArray.size_append]
  simp [ByteArray.size]
/-- The builder behind k lines. -/
def bldO (l : List DStep) : Nat → List (Nat × AO)
  | 0 => [(3, bFresh)]
  | k + 1 => [(3, bUsed 3 900), (900, bRow (bytesE ((l.take (k + 1)).flatMap lineL)))]
theorem iScriptText_p (l : List DStep) : PCall av 32 [.one (dSteps l)] (rL (scriptTextL l)) := by
  refine pcall_of av_ok Tryd.func32 rfl Tryd.call32 Tryd.ntmps32 (congrArg Array.toList Tryd.results32) fun S => ?_; conv => whnf
  repeat' (first | (refine AWP.seq ?_) | (refine AWP.region av_ok ?_; conv => whnf) | (refine AWP.ret ?_; conv => whnf) | (refine AWP.skip ?_; conv => whnf) | (refine AWP.exit ?_; conv => whnf) | (refine AWP.block ?_; conv => whnf) | (refine AWP.cond ?_; conv => whnf) | (refine AB.tt ?_; conv => whnf) | (refine AB.ff ?_; conv => whnf) | (refine AB.ofT (by assumption) ?_; conv => whnf) | (refine AB.ofF (by assumption) ?_; conv => whnf) | (exact trivial) | (refine And.intro rfl ?_; conv => whnf) | (refine AB.mk (fun h => ?_) (fun h => ?_) <;> (conv => whnf)))
  · have h6 : ¬ l.length ≤ 600 := (by simp only [decide_eq_true_eq, decide_eq_false_iff_not, List.length_map, Bool.not_eq_true', Bool.not_eq_false'] at *; omega)
    simp [scriptTextL, scriptOk, h6]
  · have h6 : l.length ≤ 600 := (by simp only [decide_eq_true_eq, decide_eq_false_iff_not, List.length_map, Bool.not_eq_true', Bool.not_eq_false'] at *; omega)
    clear h
    refine AWP.loopS (fun k : Nat => k ≤ l.length ∧ ∀ (j : Nat) (hj : j < k) (hl : j < l.length), stepOk l[j] = true) [2, 5, 6, 12, 13, 14, 15, 16, 17, 18, 19, 20, 21, 22, 23] (fun k => [(12, vI .i64 (k : Int))]) (fun k => bldO l k) (fun k => l.length - k) 0 ⟨by omega, by omega⟩ ?_ (SubO.cons rfl SubO.nil) (fun k hR => ?_) <;> (conv => whnf)
    · repeat' (first | exact trivial | (refine And.intro rfl ?_; conv => whnf))
    · obtain ⟨hk, hall⟩ := hR
      have hln := lines_len (l.take k)
      have hlk : (l.take k).length ≤ k := List.length_take_le _ _
      have no : ∀ (j : Nat) (hj : j < l.length), ((⟨(stepTextL l[j]).toArray⟩ : ByteArray).toList == (⟨#[]⟩ : ByteArray).toList) = true → AP.val (AP1.one (dL [])) = rL (scriptTextL l) := by
        intro j hj h
        rw [str_isnil] at h
        have h0 : stepOk l[j] = false := stepTextL_empty.1 (by simpa using h)
        simp [scriptTextL, scriptOk_no hj h0]
      have yes : ∀ (j : Nat) (hj : j < l.length), ((⟨(stepTextL l[j]).toArray⟩ : ByteArray).toList == (⟨#[]⟩ : ByteArray).toList) = false → stepOk l[j] = true := by
        intro j hj h
        rw [str_isnil] at h
        cases hs : stepOk l[j]
        · have := stepTextL_empty.2 hs
          simp [this] at h
        · rfl
      have nxt : ∀ (k : Nat) (hlt : k < l.length), (∀ (j : Nat) (hj : j < k) (hl : j < l.length), stepOk l[j] = true) → stepOk l[k] = true → ∀ (j : Nat) (hj : j < k + 1) (hl : j < l.length), stepOk l[j] = true := by
        intro k hlt hall h0 j hj hl
        by_cases hjk : j = k
        · subst hjk; exact h0
        · exact hall j (by omega) hl
      have fin : ∀ k, k = l.length → (∀ (j : Nat) (hj : j < k) (hl : j < l.length), stepOk l[j] = true) → scriptTextL l = (l.take k).flatMap lineL := by
        rintro k rfl hall
        simp [scriptTextL, scriptOk_yes h6 fun j hj => hall j hj hj]
      have hrow0 : ∀ (hlt : 0 < l.length), strDs (⟨(stepTextL l[0]).toArray⟩ ++ ⟨#[10]⟩) = bytesE ((l.take 1).flatMap lineL) := by
        intro hlt
        rw [take_line hlt, strDs_app]
        simp [strDs_list, lineL, bytesE_app]
      have hrow : ∀ (k : Nat) (hlt : k < l.length), bytesE ((l.take k).flatMap lineL) ++ strDs (⟨(stepTextL l[k]).toArray⟩ ++ ⟨#[10]⟩) = bytesE ((l.take (k + 1)).flatMap lineL) := by
        intro k hlt
        rw [take_line hlt, strDs_app, strDs_list, lineL, bytesE_app, bytesE_app]; rfl
      cases k with
      | zero =>
        repeat' (first | (refine AWP.seq ?_) | (refine AWP.region av_ok ?_; conv => whnf) | (refine AWP.ret ?_; conv => whnf) | (refine AWP.skip ?_; conv => whnf) | (refine AWP.exit ?_; conv => whnf) | (refine AWP.block ?_; conv => whnf) | (refine AWP.cond ?_; conv => whnf) | (refine AB.tt ?_; conv => whnf) | (refine AB.ff ?_; conv => whnf) | (refine AB.ofT (by assumption) ?_; conv => whnf) | (refine AB.ofF (by assumption) ?_; conv => whnf) | (refine AIx.mapF (by simp only [decide_eq_true_eq, decide_eq_false_iff_not, List.length_map, Bool.not_eq_true', Bool.not_eq_false'] at *; omega) (fun hlt => ?_); have hsl := stepTextL_len l[0]; conv => whnf) | (refine ACall.pure (iStepText_p l[0]) rfl ?_; conv => whnf) | (refine sz_and (by simp <;> omega) ?_; conv => whnf) | (refine ACall.meth (writeString_m0 _ (by rw [sz_line]; omega)) [(1000, 3), (14, 900)] rfl rfl ?_; conv => whnf) | (refine ACall.meth string_m0 [(1000, 3)] rfl rfl ?_; conv => whnf) | (refine AW.i64 (by simp only [decide_eq_true_eq, decide_eq_false_iff_not, List.length_map, Bool.not_eq_true', Bool.not_eq_false'] at *; omega) (by simp only [decide_eq_true_eq, decide_eq_false_iff_not, List.length_map, Bool.not_eq_true', Bool.not_eq_false'] at *; omega) ?_; conv => whnf) | (exact trivial) | (refine And.intro rfl ?_; conv => whnf) | (refine AB.mk (fun h => ?_) (fun h => ?_) <;> (conv => whnf)))
        · exact no 0 hlt h
        · refine ANext.mk ⟨1, ⟨hlt, nxt 0 hlt hall (yes 0 hlt h)⟩, by omega, ?_, SubO.cons rfl (SubO.cons (congrArg some (congrArg (AO.row 5 1) (hrow0 hlt))) SubO.nil)⟩
          (conv => whnf); repeat' (first | exact trivial | (refine ⟨rfl, ?_⟩; conv => whnf))
        · have : 0 = l.length := (by simp only [decide_eq_true_eq, decide_eq_false_iff_not, List.length_map, Bool.not_eq_true', Bool.not_eq_false'] at *; omega)
          rw [fin 0 this hall]; rfl
      | succ k =>
        have hne : (l.take (k + 1)).flatMap lineL ≠ [] := by
          have hlt : k < l.length := by omega
          rw [take_line hlt]
          simp [lineL]
        repeat' (first | (refine AWP.seq ?_) | (refine AWP.region av_ok ?_; conv => whnf) | (refine AWP.ret ?_; conv => whnf) | (refine AWP.skip ?_; conv => whnf) | (refine AWP.exit ?_; conv => whnf) | (refine AWP.block ?_; conv => whnf) | (refine AWP.cond ?_; conv => whnf) | (refine AB.tt ?_; conv => whnf) | (refine AB.ff ?_; conv => whnf) | (refine AB.ofT (by assumption) ?_; conv => whnf) | (refine AB.ofF (by assumption) ?_; conv => whnf) | (refine AIx.mapF (by simp only [decide_eq_true_eq, decide_eq_false_iff_not, List.length_map, Bool.not_eq_true', Bool.not_eq_false'] at *; omega) (fun hlt => ?_); have hsl := stepTextL_len l[k + 1]; conv => whnf) | (refine ACall.pure (iStepText_p l[k + 1]) rfl ?_; conv => whnf) | (refine sz_and (by simp <;> omega) ?_; conv => whnf) | (refine ACall.meth (writeString_m1 (bytesE ((l.take (k + 1)).flatMap lineL)) _ (by rw [bytesE_len, sz_line]; omega)) [(1000, 3), (1001, 900)] rfl rfl ?_; conv => whnf) | (refine ACall.meth (string_m1 ((l.take (k + 1)).flatMap lineL) hne) [(1000, 3), (1001, 900)] rfl rfl ?_; conv => whnf) | (refine AW.i64 (by simp only [decide_eq_true_eq, decide_eq_false_iff_not, List.length_map, Bool.not_eq_true', Bool.not_eq_false'] at *; omega) (by simp only [decide_eq_true_eq, decide_eq_false_iff_not, List.length_map, Bool.not_eq_true', Bool.not_eq_false'] at *; omega) ?_; conv => whnf) | (exact trivial) | (refine And.intro rfl ?_; conv => whnf) | (refine AB.mk (fun h => ?_) (fun h => ?_) <;> (conv => whnf)))
        · exact no (k + 1) hlt h
        · refine ANext.mk ⟨k + 2, ⟨hlt, nxt (k + 1) hlt hall (yes (k + 1) hlt h)⟩, by omega, ?_, SubO.cons rfl (SubO.cons (congrArg some (congrArg (AO.row 5 1) (hrow (k + 1) hlt))) SubO.nil)⟩
          (conv => whnf); repeat' (first | exact trivial | (refine ⟨rfl, ?_⟩; conv => whnf))
        · have : k + 1 = l.length := (by simp only [decide_eq_true_eq, decide_eq_false_iff_not, List.length_map, Bool.not_eq_true', Bool.not_eq_false'] at *; omega)
          rw [fin (k + 1) this hall]
theorem lawScriptText_p (l : List DStep) (hl : l.length ≤ 9223372036854775807) (hx : ∀ x ∈ l, x.fates.length ≤ 9223372036854775807) : PCall av 7 [.one (dSteps l)] (rB true) := by
  refine pcall_of av_ok Tryd.func7 rfl Tryd.call7 Tryd.ntmps7 (congrArg Array.toList Tryd.results7) fun S => ?_; conv => whnf
  have h1 : (!((⟨(scriptTextL l).toArray⟩ : ByteArray).toList == (⟨(scriptTextL l).toArray⟩ : ByteArray).toList)) = false := by simp
  repeat' (first | (refine AWP.seq ?_) | (refine AWP.region av_ok ?_; conv => whnf) | (refine AWP.ret ?_; conv => whnf) | (refine AWP.skip ?_; conv => whnf) | (refine AWP.exit ?_; conv => whnf) | (refine AWP.block ?_; conv => whnf) | (refine AWP.cond ?_; conv => whnf) | (refine AB.tt ?_; conv => whnf) | (refine AB.ff ?_; conv => whnf) | (refine AB.ofT (by assumption) ?_; conv => whnf) | (refine AB.ofF (by assumption) ?_; conv => whnf) | (refine ACall.pure (szStepS_p l hl hx) rfl ?_; conv => whnf) | (refine ACall.pure (toStepS_p l (szL_facts (by assumption)).1 (szL_facts (by assumption)).2) rfl ?_; conv => whnf) | (refine ACall.pure (eqStepS_p l (szL_facts (by assumption)).1 (szL_facts (by assumption)).2) rfl ?_; conv => whnf) | (refine ACall.pure (sScriptText_p l) rfl ?_; conv => whnf) | (refine ACall.pure (iScriptText_p l) rfl ?_; conv => whnf) | (exact trivial) | (refine And.intro rfl ?_; conv => whnf) | (refine AB.mk (fun h => ?_) (fun h => ?_) <;> (conv => whnf)))
end Go.Proofs.YtlhanpkfnhnegaaDoor
