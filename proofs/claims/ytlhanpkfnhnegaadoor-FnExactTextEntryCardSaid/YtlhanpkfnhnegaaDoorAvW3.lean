/- Numerals and words found in a list, over abstract values. -/
import Derived.Test.YtlhanpkfnhnegaaDoorAvW2
import Derived.Test.YtlhanpkfnhnegaaDoorAvT2
import Derived.Lib.AtoiErrMem
set_option linter.unusedVariables false
set_option linter.unusedSimpArgs false
set_option maxRecDepth 100000
namespace Go.Proofs.YtlhanpkfnhnegaaDoor
open Go.RowKit

theorem sz_dL (w : List UInt8) : (⟨w.toArray⟩ : ByteArray).size = w.length := by simp [ByteArray.size]
theorem sget {w : List UInt8} {k : Nat} (hk : k < w.length) : (⟨w.toArray⟩ : ByteArray)[k]? = some w[k] := by
  rw [getElem?_pos _ k (by rw [sz_dL]; exact hk)]
  rfl
theorem str_dec (a b : List UInt8) : ((⟨a.toArray⟩ : ByteArray).toList == (⟨b.toArray⟩ : ByteArray).toList) = decide (a = b) := by
  rw [ByteArray.toList_eq, ByteArray.toList_eq]
  by_cases h : a = b
  · subst h; simp
  · simp [h]
theorem rB_no {b : Bool} (h : b = true → False) : AP.val (AP1.one (AD.pv (Value.bool false))) = rB b := by cases b; rfl; exact (h rfl).elim
theorem rB_yes {b : Bool} (h : b = true) : AP.val (AP1.one (AD.pv (Value.bool true))) = rB b := by rw [h]
theorem u8_lit {b : UInt8} {n : Nat} (h : ((b.toNat : Int) == (n : Int)) = true) : b.toNat = n := by
  have : (b.toNat : Int) = (n : Int) := by simpa only [beq_iff_eq] using h
  omega
theorem all_take {α : Type} {p : α → Bool} {l : List α} {k : Nat} (hk : k < l.length) (h : (l.take k).all p = true) (h2 : p l[k] = true) : (l.take (k + 1)).all p = true := by
  rw [← List.take_append_getElem hk, List.all_append, h]; simp [h2]
theorem idigits_p (w : List UInt8) (m : Nat) (hw : w.length ≤ 2000000) (hm : m ≤ 1000) : PCall av 144 [pL w, pI m] (rB (digB w m)) := by
  refine pcall_of av_ok Tryd.func144 rfl Tryd.call144 Tryd.ntmps144 (congrArg Array.toList Tryd.results144) fun S => ?_; conv => whnf
  repeat' (first | (refine AWP.seq ?_) | (refine AWP.region av_ok ?_; conv => whnf) | (refine AWP.ret ?_; conv => whnf) | (refine AWP.skip ?_; conv => whnf) | (refine AWP.exit ?_; conv => whnf) | (refine AWP.block ?_; conv => whnf) | (refine AWP.cond ?_; conv => whnf) | (refine AB.tt ?_; conv => whnf) | (refine AB.ff ?_; conv => whnf) | (refine AB.ofT (by assumption) ?_; conv => whnf) | (refine AB.ofF (by assumption) ?_; conv => whnf) | (have hlt : 0 < w.length := (by simp only [sz_dL, decide_eq_true_eq, decide_eq_false_iff_not, beq_iff_eq, beq_eq_false_iff_ne, List.length_map, Bool.not_eq_true', Bool.not_eq_false', ne_eq] at *; omega); refine ⟨0, w[0]'hlt, rfl, sget hlt, ?_⟩; conv => whnf) | (exact trivial) | (refine And.intro rfl ?_; conv => whnf) | (refine AB.mk (fun h => ?_) (fun h => ?_) <;> (conv => whnf)))
  · refine rB_no fun h0 => ?_
    exact (digB_iff.1 h0).1 (List.length_eq_zero_iff.1 (by simp only [sz_dL, beq_iff_eq] at h; omega))
  · refine rB_no fun h0 => ?_
    have := (digB_iff.1 h0).2.1
    simp only [sz_dL, decide_eq_true_eq] at h
    omega
  · refine rB_no fun h0 => ?_
    have hl : 1 < w.length := (by simp only [sz_dL, decide_eq_true_eq, decide_eq_false_iff_not, beq_iff_eq, beq_eq_false_iff_ne, List.length_map, Bool.not_eq_true', Bool.not_eq_false', ne_eq] at *; omega)
    have h3 := (digB_iff.1 h0).2.2.1
    have h4 := u8_lit (n := 48) h
    rcases h3 with h3 | h3
    · omega
    · apply h3
      rw [List.head?_eq_getElem?, List.getElem?_eq_getElem (by omega)]
      exact congrArg some (UInt8.toNat_inj.1 h4)
  all_goals
    have h1 : w ≠ [] := by
      have : 0 < w.length := (by simp only [sz_dL, decide_eq_true_eq, decide_eq_false_iff_not, beq_iff_eq, beq_eq_false_iff_ne, List.length_map, Bool.not_eq_true', Bool.not_eq_false', ne_eq] at *; omega)
      exact List.length_pos_iff.1 this
    have h2 : w.length ≤ m := (by simp only [sz_dL, decide_eq_true_eq, decide_eq_false_iff_not, beq_iff_eq, beq_eq_false_iff_ne, List.length_map, Bool.not_eq_true', Bool.not_eq_false', ne_eq] at *; omega)
    have h3 : w.length ≤ 1 ∨ w.head? ≠ some 48 := by
      by_cases hl : w.length ≤ 1
      · exact .inl hl
      · refine .inr fun e => ?_
        rw [List.head?_eq_getElem?, List.getElem?_eq_getElem (by omega)] at e
        injection e with e
        first
          | (rw [e] at h; revert h; decide)
          | (simp only [sz_dL, decide_eq_false_iff_not] at h; omega)
    have no : ∀ (k : Nat) (hk : k < w.length), isDig w[k] = false → digB w m = true → False := fun k hk h h0 => by
      have := (List.all_eq_true.1 (digB_iff.1 h0).2.2.2) _ (List.getElem_mem hk)
      rw [h] at this; cases this
    clear h
    refine AWP.loopS (fun k : Nat => k ≤ w.length ∧ (w.take k).all isDig = true) [4, 5, 25, 26, 27, 28, 29, 30, 31, 32, 33, 34, 35, 36, 37, 38, 39, 40] (fun k => [(5, vI .i64 (k : Int))]) (fun k => []) (fun k => w.length - k) 0 ⟨by omega, rfl⟩ ?_ SubO.nil (fun k hR => ?_) <;> (conv => whnf)
    · repeat' (first | exact trivial | (refine And.intro rfl ?_; conv => whnf))
    · obtain ⟨hk, hall⟩ := hR
      repeat' (first | (refine AWP.seq ?_) | (refine AWP.region av_ok ?_; conv => whnf) | (refine AWP.ret ?_; conv => whnf) | (refine AWP.skip ?_; conv => whnf) | (refine AWP.exit ?_; conv => whnf) | (refine AWP.block ?_; conv => whnf) | (refine AWP.cond ?_; conv => whnf) | (refine AB.tt ?_; conv => whnf) | (refine AB.ff ?_; conv => whnf) | (refine AB.ofT (by assumption) ?_; conv => whnf) | (refine AB.ofF (by assumption) ?_; conv => whnf) | (have hlt : k < w.length := (by simp only [sz_dL, decide_eq_true_eq, decide_eq_false_iff_not, beq_iff_eq, beq_eq_false_iff_ne, List.length_map, Bool.not_eq_true', Bool.not_eq_false', ne_eq] at *; omega); refine ⟨k, w[k]'hlt, rfl, sget hlt, ?_⟩; conv => whnf) | (refine AW.i64 (by simp only [sz_dL, decide_eq_true_eq, decide_eq_false_iff_not, beq_iff_eq, beq_eq_false_iff_ne, List.length_map, Bool.not_eq_true', Bool.not_eq_false', ne_eq] at *; omega) (by simp only [sz_dL, decide_eq_true_eq, decide_eq_false_iff_not, beq_iff_eq, beq_eq_false_iff_ne, List.length_map, Bool.not_eq_true', Bool.not_eq_false', ne_eq] at *; omega) ?_; conv => whnf) | (exact trivial) | (refine And.intro rfl ?_; conv => whnf) | (refine AB.mk (fun h => ?_) (fun h => ?_) <;> (conv => whnf)))
      · have hlt : k < w.length := (by simp only [sz_dL, decide_eq_true_eq, decide_eq_false_iff_not, beq_iff_eq, beq_eq_false_iff_ne, List.length_map, Bool.not_eq_true', Bool.not_eq_false', ne_eq] at *; omega)
        refine rB_no (no k hlt ?_)
        simp only [isDig, Bool.and_eq_false_iff, decide_eq_false_iff_not, UInt8.le_iff_toNat_le]
        have := h
        simp only [decide_eq_true_eq] at this
        left
        simp
        omega
      · have hlt : k < w.length := (by simp only [sz_dL, decide_eq_true_eq, decide_eq_false_iff_not, beq_iff_eq, beq_eq_false_iff_ne, List.length_map, Bool.not_eq_true', Bool.not_eq_false', ne_eq] at *; omega)
        refine rB_no (no k hlt ?_)
        simp only [isDig, Bool.and_eq_false_iff, decide_eq_false_iff_not, UInt8.le_iff_toNat_le]
        have := h
        simp only [decide_eq_true_eq] at this
        right
        simp
        omega
      · have hlt : k < w.length := (by simp only [sz_dL, decide_eq_true_eq, decide_eq_false_iff_not, beq_iff_eq, beq_eq_false_iff_ne, List.length_map, Bool.not_eq_true', Bool.not_eq_false', ne_eq] at *; omega)
        refine ANext.mk ⟨k + 1, ⟨hlt, all_take hlt hall (isDig_iff.2 ?_)⟩, by omega, ?_, SubO.nil⟩
        · simp only [decide_eq_false_iff_not] at *; omega
        · (conv => whnf); repeat' (first | exact trivial | (refine ⟨rfl, ?_⟩; conv => whnf))
      · have : k = w.length := (by simp only [sz_dL, decide_eq_true_eq, decide_eq_false_iff_not, beq_iff_eq, beq_eq_false_iff_ne, List.length_map, Bool.not_eq_true', Bool.not_eq_false', ne_eq] at *; omega)
        subst this
        rw [List.take_length] at hall
        exact rB_yes (digB_iff.2 ⟨h1, h2, h3, hall⟩)
theorem parseInt_p (w : List UInt8) (h : digB w 10 = true) : PCall av 145 [pL w, pI 10, pI 64] (.tup [.one (dI (numV w)), .one (.pv .nilIface)]) := by
  refine PCall.plainT av_ok (vs := [.int .i64 (numV w), .nilIface]) Tryd.call145 rfl (by simp [Value.oneCell']) fun W hW => ?_
  have hl := (digB_iff.1 h).2.1
  refine (Tryd.strconv_ParseInt_10_at64_ok ⟨w.toArray⟩ (by rw [sz_dL]; omega) (numV w) (by simpa using parseInt_dig h) W).mono ?_
  rintro e w' ⟨rfl, hw⟩
  refine ⟨rfl, ?_⟩
  rcases hw with rfl | ⟨t, rfl⟩
  · exact Below.refl _ _
  · exact Lib.bytesWorld_below _ _ _
/-- Where a word stands in a list; -1. -/
def idxL : List (List UInt8) → List UInt8 → Int
  | [], _ => -1
  | y :: r, x => if y = x then 0 else if idxL r x = -1 then -1 else idxL r x + 1
def idxK (l : List (List UInt8)) (x : List UInt8) (k : Nat) : Int := if idxL (l.drop k) x = -1 then -1 else idxL (l.drop k) x + k
theorem idxL_ge (l : List (List UInt8)) (x : List UInt8) : -1 ≤ idxL l x := by
  induction l with
  | nil => exact Int.le_refl _
  | cons y r ih => unfold idxL; split; decide; split <;> omega
theorem idxK_zero (l : List (List UInt8)) (x : List UInt8) : idxK l x 0 = idxL l x := by
  unfold idxK
  rw [List.drop_zero]
  split <;> omega
theorem idxK_hit {l : List (List UInt8)} {x : List UInt8} {k : Nat} (hk : k < l.length) (h : l[k] = x) : idxK l x k = k := by
  unfold idxK
  rw [List.drop_eq_getElem_cons hk, idxL, if_pos h, if_neg (by decide)]
  omega
theorem idxK_miss {l : List (List UInt8)} {x : List UInt8} {k : Nat} (hk : k < l.length) (h : l[k] ≠ x) : idxK l x k = idxK l x (k + 1) := by
  unfold idxK
  have := idxL_ge (l.drop (k + 1)) x
  rw [List.drop_eq_getElem_cons hk, idxL, if_neg h]
  by_cases h2 : idxL (l.drop (k + 1)) x = -1
  · rw [if_pos h2, if_pos h2]; rfl
  · rw [if_neg h2, if_neg h2, if_neg (by omega)]
    omega
theorem idxK_end {l : List (List UInt8)} {x : List UInt8} : idxK l x l.length = -1 := by
  unfold idxK
  rw [List.drop_length]; rfl
abbrev dSs (l : List (List UInt8)) : AD := .sl (l.map eS)
theorem sl1At_p (l : List (List UInt8)) (x : List UInt8) (hl : l.length ≤ 9223372036854775800) : PCall av 108 [.one (dSs l), pL x] (rI (idxL l x)) := by
  refine pcall_of av_ok Tryd.func108 rfl Tryd.call108 Tryd.ntmps108 (congrArg Array.toList Tryd.results108) fun S => ?_; conv => whnf
  repeat' (first | (refine AWP.seq ?_) | (refine AWP.region av_ok ?_; conv => whnf) | (refine AWP.ret ?_; conv => whnf) | (refine AWP.skip ?_; conv => whnf) | (refine AWP.exit ?_; conv => whnf) | (refine AWP.block ?_; conv => whnf) | (refine AWP.cond ?_; conv => whnf) | (refine AB.tt ?_; conv => whnf) | (refine AB.ff ?_; conv => whnf) | (refine AB.ofT (by assumption) ?_; conv => whnf) | (refine AB.ofF (by assumption) ?_; conv => whnf) | (exact trivial) | (refine And.intro rfl ?_; conv => whnf) | (refine AB.mk (fun h => ?_) (fun h => ?_) <;> (conv => whnf)))
  refine AWP.loopS (fun k : Nat => k ≤ l.length ∧ idxK l x k = idxL l x) [4, 5, 6, 7, 8, 9, 10, 11, 12, 13, 14, 15, 16, 17, 18] (fun k => [(5, vI .i64 (k : Int))]) (fun k => []) (fun k => l.length - k) 0 ⟨by omega, idxK_zero l x⟩ ?_ SubO.nil (fun k hR => ?_) <;> (conv => whnf)
  · repeat' (first | exact trivial | (refine And.intro rfl ?_; conv => whnf))
  · obtain ⟨hk, hix⟩ := hR
    repeat' (first | (refine AWP.seq ?_) | (refine AWP.region av_ok ?_; conv => whnf) | (refine AWP.ret ?_; conv => whnf) | (refine AWP.skip ?_; conv => whnf) | (refine AWP.exit ?_; conv => whnf) | (refine AWP.block ?_; conv => whnf) | (refine AWP.cond ?_; conv => whnf) | (refine AB.tt ?_; conv => whnf) | (refine AB.ff ?_; conv => whnf) | (refine AB.ofT (by assumption) ?_; conv => whnf) | (refine AB.ofF (by assumption) ?_; conv => whnf) | (refine AIx.mapF (by simp only [decide_eq_true_eq, decide_eq_false_iff_not, List.length_map, Bool.not_eq_true', Bool.not_eq_false'] at *; omega) (fun hlt => ?_); conv => whnf) | (refine AW.i64 (by simp only [decide_eq_true_eq, decide_eq_false_iff_not, List.length_map, Bool.not_eq_true', Bool.not_eq_false'] at *; omega) (by simp only [decide_eq_true_eq, decide_eq_false_iff_not, List.length_map, Bool.not_eq_true', Bool.not_eq_false'] at *; omega) ?_; conv => whnf) | (exact trivial) | (refine And.intro rfl ?_; conv => whnf) | (refine AB.mk (fun h => ?_) (fun h => ?_) <;> (conv => whnf)))
    · have hx : l[k] = x := by simpa [str_dec] using h
      rw [← hix, idxK_hit hlt hx]
    · have hx : l[k] ≠ x := by simpa [str_dec] using h
      refine ANext.mk ⟨k + 1, ⟨hlt, (idxK_miss hlt hx).symm.trans hix⟩, by omega, ?_, SubO.nil⟩
      (conv => whnf); repeat' (first | exact trivial | (refine ⟨rfl, ?_⟩; conv => whnf))
    · have : k = l.length := (by simp only [decide_eq_true_eq, decide_eq_false_iff_not, List.length_map, Bool.not_eq_true', Bool.not_eq_false'] at *; omega)
      subst this
      rw [← hix, idxK_end]
theorem index_p (l : List (List UInt8)) (x : List UInt8) (hl : l.length ≤ 9223372036854775800) : PCall av 158 [.one (dSs l), pL x] (rI (idxL l x)) := by
  refine pcall_of av_ok Tryd.func158 rfl Tryd.call158 Tryd.ntmps158 (congrArg Array.toList Tryd.results158) fun S => ?_; conv => whnf
  repeat' (first | (refine AWP.seq ?_) | (refine AWP.region av_ok ?_; conv => whnf) | (refine AWP.ret ?_; conv => whnf) | (refine AWP.skip ?_; conv => whnf) | (refine AWP.exit ?_; conv => whnf) | (refine AWP.block ?_; conv => whnf) | (refine AWP.cond ?_; conv => whnf) | (refine AB.tt ?_; conv => whnf) | (refine AB.ff ?_; conv => whnf) | (refine AB.ofT (by assumption) ?_; conv => whnf) | (refine AB.ofF (by assumption) ?_; conv => whnf) | (exact trivial) | (refine And.intro rfl ?_; conv => whnf) | (refine AB.mk (fun h => ?_) (fun h => ?_) <;> (conv => whnf)))
  refine AWP.loopS (fun k : Nat => k ≤ l.length ∧ idxK l x k = idxL l x) [5, 9, 10, 11, 12, 13, 14, 15, 16, 17, 18] (fun k => [(8, vI .i64 (k : Int))]) (fun k => []) (fun k => l.length - k) 0 ⟨by omega, idxK_zero l x⟩ ?_ SubO.nil (fun k hR => ?_) <;> (conv => whnf)
  · repeat' (first | exact trivial | (refine And.intro rfl ?_; conv => whnf))
  · obtain ⟨hk, hix⟩ := hR
    repeat' (first | (refine AWP.seq ?_) | (refine AWP.region av_ok ?_; conv => whnf) | (refine AWP.ret ?_; conv => whnf) | (refine AWP.skip ?_; conv => whnf) | (refine AWP.exit ?_; conv => whnf) | (refine AWP.block ?_; conv => whnf) | (refine AWP.cond ?_; conv => whnf) | (refine AB.tt ?_; conv => whnf) | (refine AB.ff ?_; conv => whnf) | (refine AB.ofT (by assumption) ?_; conv => whnf) | (refine AB.ofF (by assumption) ?_; conv => whnf) | (refine AIx.mapF (by simp only [decide_eq_true_eq, decide_eq_false_iff_not, List.length_map, Bool.not_eq_true', Bool.not_eq_false'] at *; omega) (fun hlt => ?_); conv => whnf) | (refine AW.i64 (by simp only [decide_eq_true_eq, decide_eq_false_iff_not, List.length_map, Bool.not_eq_true', Bool.not_eq_false'] at *; omega) (by simp only [decide_eq_true_eq, decide_eq_false_iff_not, List.length_map, Bool.not_eq_true', Bool.not_eq_false'] at *; omega) ?_; conv => whnf) | (exact trivial) | (refine And.intro rfl ?_; conv => whnf) | (refine AB.mk (fun h => ?_) (fun h => ?_) <;> (conv => whnf)))
    · have hx : x = l[k] := by simpa [str_dec] using h
      rw [← hix, idxK_hit hlt hx.symm]
    · have hx : x ≠ l[k] := by simpa [str_dec] using h
      refine ANext.mk ⟨k + 1, ⟨hlt, (idxK_miss hlt hx.symm).symm.trans hix⟩, by omega, ?_, SubO.nil⟩
      (conv => whnf); repeat' (first | exact trivial | (refine ⟨rfl, ?_⟩; conv => whnf))
    · have : k = l.length := (by simp only [decide_eq_true_eq, decide_eq_false_iff_not, List.length_map, Bool.not_eq_true', Bool.not_eq_false'] at *; omega)
      subst this
      rw [← hix, idxK_end]
def nodesL : List (List UInt8) := [[108, 111, 103], [115, 116, 111, 114, 101], [108, 101, 102, 116], [114, 105, 103, 104, 116], [97, 110, 110], [98, 111, 98]]
def nodeIx (w : List UInt8) : Int := idxL nodesL w
theorem inodeWords_p : PCall av 132 [] (.val (.one (dSs nodesL))) := by
  refine pcall_of av_ok Tryd.func132 rfl Tryd.call132 Tryd.ntmps132 (congrArg Array.toList Tryd.results132) fun S => ?_; conv => whnf
  repeat' (first | (refine AWP.seq ?_) | (refine AWP.region av_ok ?_; conv => whnf) | (refine AWP.ret ?_; conv => whnf) | (refine AWP.skip ?_; conv => whnf) | (refine AWP.exit ?_; conv => whnf) | (refine AWP.block ?_; conv => whnf) | (refine AWP.cond ?_; conv => whnf) | (refine AB.tt ?_; conv => whnf) | (refine AB.ff ?_; conv => whnf) | (exact trivial) | (refine And.intro rfl ?_; conv => whnf) | (refine AB.mk (fun h => ?_) (fun h => ?_) <;> (conv => whnf)))
  rfl
theorem iNodeOf_p (w : List UInt8) : PCall av 146 [pL w] (rI (nodeIx w)) := by
  refine pcall_of av_ok Tryd.func146 rfl Tryd.call146 Tryd.ntmps146 (congrArg Array.toList Tryd.results146) fun S => ?_; conv => whnf
  repeat' (first | (refine AWP.seq ?_) | (refine AWP.region av_ok ?_; conv => whnf) | (refine AWP.ret ?_; conv => whnf) | (refine AWP.skip ?_; conv => whnf) | (refine AWP.exit ?_; conv => whnf) | (refine AWP.block ?_; conv => whnf) | (refine AWP.cond ?_; conv => whnf) | (refine AB.tt ?_; conv => whnf) | (refine AB.ff ?_; conv => whnf) | (refine ACall.pure inodeWords_p rfl ?_; conv => whnf) | (refine ACall.pure (index_p nodesL w (by decide)) rfl ?_; conv => whnf) | (exact trivial) | (refine And.intro rfl ?_; conv => whnf) | (refine AB.mk (fun h => ?_) (fun h => ?_) <;> (conv => whnf)))
  rfl
theorem sl32Nodes_p : PCall av 126 [] (.val (.one (dSs nodesL))) := by
  refine pcall_of av_ok Tryd.func126 rfl Tryd.call126 Tryd.ntmps126 (congrArg Array.toList Tryd.results126) fun S => ?_; conv => whnf
  repeat' (first | (refine AWP.seq ?_) | (refine AWP.region av_ok ?_; conv => whnf) | (refine AWP.ret ?_; conv => whnf) | (refine AWP.skip ?_; conv => whnf) | (refine AWP.exit ?_; conv => whnf) | (refine AWP.block ?_; conv => whnf) | (refine AWP.cond ?_; conv => whnf) | (refine AB.tt ?_; conv => whnf) | (refine AB.ff ?_; conv => whnf) | (exact trivial) | (refine And.intro rfl ?_; conv => whnf) | (refine AB.mk (fun h => ?_) (fun h => ?_) <;> (conv => whnf)))
  rfl
theorem sNodeOf_p (w : List UInt8) : PCall av 104 [pL w] (rI (nodeIx w)) := by
  refine pcall_of av_ok Tryd.func104 rfl Tryd.call104 Tryd.ntmps104 (congrArg Array.toList Tryd.results104) fun S => ?_; conv => whnf
  repeat' (first | (refine AWP.seq ?_) | (refine AWP.region av_ok ?_; conv => whnf) | (refine AWP.ret ?_; conv => whnf) | (refine AWP.skip ?_; conv => whnf) | (refine AWP.exit ?_; conv => whnf) | (refine AWP.block ?_; conv => whnf) | (refine AWP.cond ?_; conv => whnf) | (refine AB.tt ?_; conv => whnf) | (refine AB.ff ?_; conv => whnf) | (refine ACall.pure sl32Nodes_p rfl ?_; conv => whnf) | (refine ACall.pure (sl1At_p nodesL w (by decide)) rfl ?_; conv => whnf) | (exact trivial) | (refine And.intro rfl ?_; conv => whnf) | (refine AB.mk (fun h => ?_) (fun h => ?_) <;> (conv => whnf)))
  rfl
end Go.Proofs.YtlhanpkfnhnegaaDoor
