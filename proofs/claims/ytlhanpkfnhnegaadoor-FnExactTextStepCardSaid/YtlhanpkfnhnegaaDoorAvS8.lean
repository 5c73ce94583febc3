/- Scripts as text: the reference. -/
import Derived.Test.YtlhanpkfnhnegaaDoorAvS7
import Derived.Laws.StructEq
set_option linter.unusedVariables false
set_option linter.unusedSimpArgs false
set_option maxRecDepth 100000
namespace Go.Proofs.YtlhanpkfnhnegaaDoor
open Go.ChangeShapes Go.WideShapes Go.RowKit

/-- The bytes of a list, as elements. -/
def bytesE (l : List UInt8) : List (List AD) := l.map fun b => [.pv (.int .u8 b.toNat)]
theorem strDs_list (l : List UInt8) : strDs ⟨l.toArray⟩ = bytesE l := by simp [strDs, bytesE]
theorem bytesE_app (l m : List UInt8) : bytesE (l ++ m) = bytesE l ++ bytesE m := by simp [bytesE]
theorem bytesE_len (l : List UInt8) : (bytesE l).length = l.length := by simp [bytesE]
theorem bytesE_u (l : List UInt8) : bytesE l = (l.map fun b => (b.toNat : Int)).map eU := by simp [bytesE, eU]
theorem strOf_bytes (l : List UInt8) : strOfNums (l.map fun b => (b.toNat : Int)) = ⟨l.toArray⟩ := by
  have : (l.map fun b => (b.toNat : Int)).map (fun n => UInt8.ofNat n.toNat) = l := by
    rw [List.map_map]
    exact (List.map_congr_left (fun b _ => by simp)).trans (List.map_id l)
  unfold strOfNums
  rw [this]
def lineL (x : DStep) : List UInt8 := stepTextL x ++ [10]
def scriptOk (l : List DStep) : Bool := decide (l.length ≤ 600) && l.all stepOk
def scriptTextL (l : List DStep) : List UInt8 := if scriptOk l then l.flatMap lineL else []
theorem stepTextL_len (x : DStep) : (stepTextL x).length ≤ 1000 := by
  unfold stepTextL
  split
  · rename_i h; exact stepWords_len h
  · simp
theorem lines_len (l : List DStep) : (l.flatMap lineL).length ≤ 1001 * l.length := by
  induction l with
  | nil => simp
  | cons x r ih =>
    have := stepTextL_len x
    simp only [List.flatMap_cons, List.length_append, List.length_cons, lineL, List.length_nil]
    omega
theorem stepTextL_empty {x : DStep} : stepTextL x = [] ↔ stepOk x = false := by
  unfold stepTextL
  cases h : stepOk x
  · simp
  · have hF := stepOk_facts h
    simp only [if_true, Bool.true_eq_false, iff_false]
    have : (kindL x.kind).length ≠ 0 := by
      rcases kind_cases hF.1.1 hF.1.2 with e | e | e | e | e | e | e | e | e | e | e <;> rw [e] <;> decide
    unfold stepWords
    intro h0
    apply this
    have h1 := congrArg List.length h0
    simp only [List.cons_append, wordsB, List.length_append, List.length_nil] at h1
    omega
theorem scriptOk_no {l : List DStep} {k : Nat} (hk : k < l.length) (h : stepOk l[k] = false) : scriptOk l = false := by
  simp only [scriptOk, Bool.and_eq_false_iff]
  refine .inr ?_
  rw [← Bool.not_eq_true, List.all_eq_true]
  intro hall
  have := hall l[k] (List.getElem_mem hk)
  rw [h] at this
  cases this
theorem scriptOk_yes {l : List DStep} (h : l.length ≤ 600) (hall : ∀ (j : Nat) (hj : j < l.length), stepOk l[j] = true) : scriptOk l = true := by
  simp only [scriptOk, Bool.and_eq_true, decide_eq_true_eq, List.all_eq_true]
  refine ⟨h, fun x hx => ?_⟩
  obtain ⟨j, hj, rfl⟩ := List.getElem_of_mem hx
  exact hall j hj
theorem take_line {l : List DStep} {k : Nat} (hk : k < l.length) : (l.take (k + 1)).flatMap lineL = (l.take k).flatMap lineL ++ lineL l[k] := by
  rw [← List.take_append_getElem hk, List.flatMap_append]; simp
theorem str_isnil (l : List UInt8) : ((⟨l.toArray⟩ : ByteArray).toList == (⟨#[]⟩ : ByteArray).toList) = decide (l = []) := by
  rw [← beq_toListBytes]
  cases l <;> rfl
theorem sz_str {a : Nat} {b : ByteArray} {Q : Prop} (h : a + b.data.toList.length ≤ 140737488355328) (q : Q) : a + b.size ≤ 140737488355328 ∧ Q := ⟨by simpa using h, q⟩
theorem sScriptText_p (l : List DStep) : PCall av 30 [.one (dSteps l)] (rL (scriptTextL l)) := by
  refine pcall_of av_ok Tryd.func30 rfl Tryd.call30 Tryd.ntmps30 (congrArg Array.toList Tryd.results30) fun S => ?_; conv => whnf
  repeat' (first | (refine AWP.seq ?_) | (refine AWP.region av_ok ?_; conv => whnf) | (refine AWP.ret ?_; conv => whnf) | (refine AWP.skip ?_; conv => whnf) | (refine AWP.exit ?_; conv => whnf) | (refine AWP.block ?_; conv => whnf) | (refine AWP.cond ?_; conv => whnf) | (refine AB.tt ?_; conv => whnf) | (refine AB.ff ?_; conv => whnf) | (refine AB.ofT (by assumption) ?_; conv => whnf) | (refine AB.ofF (by assumption) ?_; conv => whnf) | (exact trivial) | (refine And.intro rfl ?_; conv => whnf) | (refine AB.mk (fun h => ?_) (fun h => ?_) <;> (conv => whnf)) | (with_reducible_and_instances rfl) | (exact (rfl : AP.tup _ = AP.tup _)))
  · have h6 : ¬ l.length ≤ 600 := (by simp only [decide_eq_true_eq, decide_eq_false_iff_not, List.length_map, Bool.not_eq_true', Bool.not_eq_false'] at *; omega)
    simp [scriptTextL, scriptOk, h6]
  · have h6 : l.length ≤ 600 := (by simp only [decide_eq_true_eq, decide_eq_false_iff_not, List.length_map, Bool.not_eq_true', Bool.not_eq_false'] at *; omega)
    clear h
    refine AWP.loopS (fun k : Nat => k ≤ l.length ∧ ∀ (j : Nat) (hj : j < k) (hl : j < l.length), stepOk l[j] = true) (9 :: [2, 3, 4, 5, 10, 11, 12, 13, 14, 15, 16, 17, 18, 19, 20, 21, 22, 23, 24, 25, 26, 27, 28]) (fun k => [(3, .one (.own 9)), (4, vI .i64 (k : Int))]) (fun k => [(9, .row 5 1 (bytesE ((l.take k).flatMap lineL)))]) (fun k => l.length - k) 0 ⟨by omega, by omega⟩ ?_ (SubO.cons rfl SubO.nil) (fun k hR => ?_) <;> (conv => whnf)
    · repeat' (first | exact trivial | (refine And.intro rfl ?_; conv => whnf))
    · obtain ⟨hk, hall⟩ := hR
      have hln := lines_len (l.take k)
      have hlk : (l.take k).length ≤ k := List.length_take_le _ _
      repeat' (first | (refine AWP.seq ?_) | (refine AWP.region av_ok ?_; conv => whnf) | (refine AWP.ret ?_; conv => whnf) | (refine AWP.skip ?_; conv => whnf) | (refine AWP.exit ?_; conv => whnf) | (refine AWP.block ?_; conv => whnf) | (refine AWP.cond ?_; conv => whnf) | (refine AB.tt ?_; conv => whnf) | (refine AB.ff ?_; conv => whnf) | (refine AB.ofT (by assumption) ?_; conv => whnf) | (refine AB.ofF (by assumption) ?_; conv => whnf) | (refine AIx.mapF (by simp only [decide_eq_true_eq, decide_eq_false_iff_not, List.length_map, Bool.not_eq_true', Bool.not_eq_false'] at *; omega) (fun hlt => ?_); have hsl := stepTextL_len l[k]; conv => whnf) | (refine ACall.pure (sStepText_p l[k]) rfl ?_; conv => whnf) | (refine AW.i64 (by simp only [decide_eq_true_eq, decide_eq_false_iff_not, List.length_map, Bool.not_eq_true', Bool.not_eq_false'] at *; omega) (by simp only [decide_eq_true_eq, decide_eq_false_iff_not, List.length_map, Bool.not_eq_true', Bool.not_eq_false'] at *; omega) ?_; conv => whnf) | (refine sz_str (by simp only [bytesE_len, List.toList_toArray]; omega) ?_; conv => whnf) | (refine sz_app (by simp only [List.length_append, strDs_list, bytesE_len, List.length_cons, List.length_nil]; omega) ?_; conv => whnf) | (refine AOp.bytes (e := 5) ((l.flatMap lineL).map fun b => (b.toNat : Int)) rfl Tryd.underlying76 Tryd.underlying5 Tryd.underlying9 ?_ ?_) | (exact trivial) | (refine And.intro rfl ?_; conv => whnf) | (refine AB.mk (fun h => ?_) (fun h => ?_) <;> (conv => whnf)) | (with_reducible_and_instances rfl) | (exact (rfl : AP.tup _ = AP.tup _)))
      · rw [str_isnil] at h
        have h0 : stepOk l[k] = false := stepTextL_empty.1 (by simpa using h)
        simp [scriptTextL, scriptOk_no hlt h0]
      · rw [str_isnil] at h
        have h0 : stepOk l[k] = true := by
          cases hs : stepOk l[k]
          · have := stepTextL_empty.2 hs
            simp [this] at h
          · rfl
        have erow : bytesE ((l.take k).flatMap lineL) ++ strDs ⟨(stepTextL l[k]).toArray⟩ ++ [[AD.pv (.int .u8 10)]] = bytesE ((l.take (k + 1)).flatMap lineL) := by
          rw [take_line hlt, strDs_list, lineL, bytesE_app, bytesE_app, List.append_assoc]; rfl
        refine ANext.mk ⟨k + 1, ⟨hlt, fun j hj hl => ?_⟩, by omega, ?_, SubO.cons (congrArg some (congrArg (AO.row 5 1) erow)) SubO.nil⟩
        · by_cases hjk : j = k
          · subst hjk; exact h0
          · exact hall j (by omega) hl
        · (conv => whnf); repeat' (first | exact trivial | (refine ⟨rfl, ?_⟩; conv => whnf))
      · have : k = l.length := (by simp only [decide_eq_true_eq, decide_eq_false_iff_not, List.length_map, Bool.not_eq_true', Bool.not_eq_false'] at *; omega)
        conv => whnf
        subst this
        rw [List.take_length]
        exact bytesE_u _
      · have : k = l.length := (by simp only [decide_eq_true_eq, decide_eq_false_iff_not, List.length_map, Bool.not_eq_true', Bool.not_eq_false'] at *; omega)
        conv => whnf
        repeat' (first | (refine AWP.seq ?_) | (refine AWP.region av_ok ?_; conv => whnf) | (refine AWP.ret ?_; conv => whnf) | (refine AWP.skip ?_; conv => whnf) | (refine AWP.exit ?_; conv => whnf) | (refine AWP.block ?_; conv => whnf) | (refine AWP.cond ?_; conv => whnf) | (refine AB.tt ?_; conv => whnf) | (refine AB.ff ?_; conv => whnf) | (exact trivial) | (refine And.intro rfl ?_; conv => whnf) | (refine AB.mk (fun h => ?_) (fun h => ?_) <;> (conv => whnf)) | (with_reducible_and_instances rfl) | (exact (rfl : AP.tup _ = AP.tup _)))
        have h0 : scriptOk l = true := scriptOk_yes h6 fun j hj => hall j (by omega) hj
        rw [strOf_bytes]
        simp [scriptTextL, h0]
end Go.Proofs.YtlhanpkfnhnegaaDoor
