/- Joined by join.py: AvWF AvWG AvWH AvWI AvWL AvWM AvWN AvWQ -/
import Derived.Test.YtlhanpkfnhnegaaDoorAvJ6
import Derived.Test.YtlhanpkfnhnegaaDoorAvJS
import Derived.Test.YtlhanpkfnhnegaaDoorAvWE
set_option linter.unusedVariables false
set_option linter.unusedSimpArgs false
set_option maxRecDepth 100000
/- The scanner's steps. -/
namespace Go.Proofs.YtlhanpkfnhnegaaDoor
open Go.RowKit

def fatesOf (w : List UInt8) : List Int := (w.take 121).map fun b => (b.toNat : Int) - 48
/-- The fates are read, of a word that is there. -/
def scFates (s : Sc) : Sc := if s.cur = [] then { s.next with bad := true } else s.next
theorem Sc.ok.fates {s : Sc} (h : s.ok) : (scFates s).ok := by
  have := h.next
  unfold scFates
  split <;> exact this
theorem fates_m0 (s : Sc) (hd : s.ws = []) : MCall av 148 [.one (.ref 1000 0 0 0)] [(1000, s.o)] [(1000, s.o)] [1000] (.val (.one .nil)) := by
  obtain ⟨ws, bad, at_⟩ := s
  simp only at hd
  subst hd
  refine mcall_of av_ok Tryd.func148 rfl Tryd.call148 Tryd.ntmps148 (congrArg Array.toList Tryd.results148) rfl fun S pv => ?_; conv => whnf
  repeat' (first | (refine AWP.seq ?_) | (refine AWP.region av_ok ?_; conv => whnf) | (refine AWP.ret ?_; conv => whnf) | (refine AWP.skip ?_; conv => whnf) | (refine AWP.exit ?_; conv => whnf) | (refine AWP.block ?_; conv => whnf) | (refine AWP.cond ?_; conv => whnf) | (refine AB.tt ?_; conv => whnf) | (refine AB.ff ?_; conv => whnf) | (refine AB.ofT (by assumption) ?_; conv => whnf) | (refine AB.ofF (by assumption) ?_; conv => whnf) | (exact trivial) | (refine And.intro rfl ?_; conv => whnf) | (refine AB.mk (fun h => ?_) (fun h => ?_) <;> (conv => whnf)) | (with_reducible_and_instances rfl) | (exact (rfl : AP.tup _ = AP.tup _)))
theorem fates_m1 (s : Sc) (hs : s.ok) (hd : s.ws ≠ []) : MCall av 148 [.one (.ref 1000 0 0 0)] [(1000, s.o)] [(1000, (scFates s).o), (12, .row 2 1 ((fatesOf s.cur).map eI))] [1000] (.val (.one (.own 12))) := by
  have wm := word_m s hs
  have hcl := hs.cur
  have hemp : s.ws.isEmpty = false := by
    cases h : s.ws with
    | nil => exact absurd h hd
    | cons w r => rfl
  obtain ⟨ws1, b1, a1⟩ : ∃ ws1 b1 a1, s.next = ⟨ws1, b1, a1⟩ := ⟨_, _, _, rfl⟩
  obtain ⟨a1, hs1⟩ := a1
  rw [hs1] at wm
  generalize hw : s.cur = w at *
  have e : scFates s = ⟨ws1, if w = [] then true else b1, a1⟩ := by
    unfold scFates; rw [hs1, hw]; split <;> rfl
  rw [e]
  have fin : ∀ k, k ≤ w.length → k ≤ 121 → ¬ (k < w.length ∧ k ≤ 120) → w.take k = w.take 121 := by
    intro k h1 h2 h3
    by_cases h4 : k = 121
    · subst h4; rfl
    · have : k = w.length := by omega
      subst this
      rw [List.take_length, List.take_of_length_le (by omega)]
  by_cases hnil : w = []
  · have hst : ((⟨w.toArray⟩ : ByteArray).toList == (⟨#[]⟩ : ByteArray).toList) = true := by rw [hnil]; exact (str_dec [] []).trans (by simp)
    rw [if_pos hnil]
    refine mcall_of av_ok Tryd.func148 rfl Tryd.call148 Tryd.ntmps148 (congrArg Array.toList Tryd.results148) rfl fun S pv => ?_; conv => whnf
    repeat' (first | (refine AWP.seq ?_) | (refine AWP.region av_ok ?_; conv => whnf) | (refine AWP.ret ?_; conv => whnf) | (refine AWP.skip ?_; conv => whnf) | (refine AWP.exit ?_; conv => whnf) | (refine AWP.block ?_; conv => whnf) | (refine AWP.cond ?_; conv => whnf) | (refine AB.tt ?_; conv => whnf) | (refine AB.ff ?_; conv => whnf) | (refine AB.ofT (by assumption) ?_; conv => whnf) | (refine AB.ofF (by assumption) ?_; conv => whnf) | (refine ACall.upd wm 1000 rfl rfl rfl ?_; conv => whnf) | (exact trivial) | (refine And.intro rfl ?_; conv => whnf) | (refine AB.mk (fun h => ?_) (fun h => ?_) <;> (conv => whnf)) | (with_reducible_and_instances rfl) | (exact (rfl : AP.tup _ = AP.tup _)))
    subst hnil
    refine AWP.unroll 1 ?_
    conv => whnf
    repeat' (first | (refine AWP.seq ?_) | (refine AWP.region av_ok ?_; conv => whnf) | (refine AWP.ret ?_; conv => whnf) | (refine AWP.skip ?_; conv => whnf) | (refine AWP.exit ?_; conv => whnf) | (refine AWP.block ?_; conv => whnf) | (refine AWP.cond ?_; conv => whnf) | (refine AB.tt ?_; conv => whnf) | (refine AB.ff ?_; conv => whnf) | (refine AB.ofT (by assumption) ?_; conv => whnf) | (refine AB.ofF (by assumption) ?_; conv => whnf) | (refine AB.ofF (by decide) ?_; conv => whnf) | (exact trivial) | (refine And.intro rfl ?_; conv => whnf) | (refine AB.mk (fun h => ?_) (fun h => ?_) <;> (conv => whnf)) | (with_reducible_and_instances rfl) | (exact (rfl : AP.tup _ = AP.tup _)))
  · have hst : ((⟨w.toArray⟩ : ByteArray).toList == (⟨#[]⟩ : ByteArray).toList) = false := by
      have := str_dec w []
      rw [decide_eq_false hnil] at this
      exact this
    rw [if_neg hnil]
    refine mcall_of av_ok Tryd.func148 rfl Tryd.call148 Tryd.ntmps148 (congrArg Array.toList Tryd.results148) rfl fun S pv => ?_; conv => whnf
    repeat' (first | (refine AWP.seq ?_) | (refine AWP.region av_ok ?_; conv => whnf) | (refine AWP.ret ?_; conv => whnf) | (refine AWP.skip ?_; conv => whnf) | (refine AWP.exit ?_; conv => whnf) | (refine AWP.block ?_; conv => whnf) | (refine AWP.cond ?_; conv => whnf) | (refine AB.tt ?_; conv => whnf) | (refine AB.ff ?_; conv => whnf) | (refine AB.ofT (by assumption) ?_; conv => whnf) | (refine AB.ofF (by assumption) ?_; conv => whnf) | (refine ACall.upd wm 1000 rfl rfl rfl ?_; conv => whnf) | (exact trivial) | (refine And.intro rfl ?_; conv => whnf) | (refine AB.mk (fun h => ?_) (fun h => ?_) <;> (conv => whnf)) | (with_reducible_and_instances rfl) | (exact (rfl : AP.tup _ = AP.tup _)))
    refine AWP.loopS (fun k : Nat => k ≤ w.length ∧ k ≤ 121) (12 :: [4, 5, 18, 19, 20, 21, 22, 23, 24, 25, 26, 27, 28, 29, 30, 31, 32, 33, 34, 35]) (fun k => [(4, .one (.own 12)), (5, vI .i64 (k : Int))]) (fun k => [(9999, .frame (pinsOf [1000]) pv), (1000, (⟨ws1, b1, a1⟩ : Sc).o), (12, .row 2 1 (((w.take k).map fun b => (b.toNat : Int) - 48).map eI))]) (fun k => w.length - k) 0 ⟨by omega, by omega⟩ ?_ (SubO.cons rfl (SubO.cons rfl (SubO.cons rfl SubO.nil))) (fun k hR => ?_) <;> (conv => whnf)
    · repeat' (first | exact trivial | (refine And.intro rfl ?_; conv => whnf))
    · obtain ⟨hk, hk1⟩ := hR
      repeat' (first | (refine AWP.seq ?_) | (refine AWP.region av_ok ?_; conv => whnf) | (refine AWP.ret ?_; conv => whnf) | (refine AWP.skip ?_; conv => whnf) | (refine AWP.exit ?_; conv => whnf) | (refine AWP.block ?_; conv => whnf) | (refine AWP.cond ?_; conv => whnf) | (refine AB.tt ?_; conv => whnf) | (refine AB.ff ?_; conv => whnf) | (refine AB.ofT (by assumption) ?_; conv => whnf) | (refine AB.ofF (by assumption) ?_; conv => whnf) | (have hlt : k < w.length := (by simp only [sz_dL, decide_eq_true_eq, decide_eq_false_iff_not, beq_iff_eq, beq_eq_false_iff_ne, List.length_map, Bool.not_eq_true', Bool.not_eq_false', ne_eq] at *; omega); have hb : w[k].toNat ≤ 255 := (by have := w[k].toNat_lt; omega); refine ⟨k, w[k]'hlt, rfl, sget hlt, ?_⟩; conv => whnf) | (refine AW.i64 (by simp only [sz_dL, decide_eq_true_eq, decide_eq_false_iff_not, beq_iff_eq, beq_eq_false_iff_ne, List.length_map, Bool.not_eq_true', Bool.not_eq_false', ne_eq] at *; omega) (by simp only [sz_dL, decide_eq_true_eq, decide_eq_false_iff_not, beq_iff_eq, beq_eq_false_iff_ne, List.length_map, Bool.not_eq_true', Bool.not_eq_false', ne_eq] at *; omega) ?_; conv => whnf) | (refine all_len (by simp [eI]) ?_; conv => whnf) | (refine sz_app (by simp only [List.length_map, List.length_take, List.length_cons, List.length_nil]; omega) ?_; conv => whnf) | (exact trivial) | (refine And.intro rfl ?_; conv => whnf) | (refine AB.mk (fun h => ?_) (fun h => ?_) <;> (conv => whnf)) | (with_reducible_and_instances rfl) | (exact (rfl : AP.tup _ = AP.tup _)))
      · have hk2 : k ≤ 120 := (by simp only [decide_eq_true_eq, decide_eq_false_iff_not, List.length_map, Bool.not_eq_true', Bool.not_eq_false'] at *; omega)
        have hrow : ((w.take k).map fun b => (b.toNat : Int) - 48).map eI ++ [[dI ((w[k].toNat : Int) - 48)]] = ((w.take (k + 1)).map fun b => (b.toNat : Int) - 48).map eI := by
          rw [← List.take_append_getElem hlt, List.map_append, List.map_append]; rfl
        refine ANext.mk ⟨k + 1, ⟨hlt, by omega⟩, by omega, ?_, SubO.cons rfl (SubO.cons rfl (SubO.cons (congrArg some (congrArg (AO.row 2 1) hrow)) SubO.nil))⟩
        (conv => whnf); repeat' (first | exact trivial | (refine ⟨rfl, ?_⟩; conv => whnf))
      · have e2 := fin k hk hk1 (by simp only [sz_dL, decide_eq_true_eq, decide_eq_false_iff_not] at *; omega)
        rw [e2]
        repeat' (first | (refine AWP.seq ?_) | (refine AWP.region av_ok ?_; conv => whnf) | (refine AWP.ret ?_; conv => whnf) | (refine AWP.skip ?_; conv => whnf) | (refine AWP.exit ?_; conv => whnf) | (refine AWP.block ?_; conv => whnf) | (refine AWP.cond ?_; conv => whnf) | (refine AB.tt ?_; conv => whnf) | (refine AB.ff ?_; conv => whnf) | (exact trivial) | (refine And.intro rfl ?_; conv => whnf) | (refine AB.mk (fun h => ?_) (fun h => ?_) <;> (conv => whnf)) | (with_reducible_and_instances rfl) | (exact (rfl : AP.tup _ = AP.tup _)))
      · have e2 := fin k hk hk1 (by simp only [sz_dL, decide_eq_true_eq, decide_eq_false_iff_not] at *; omega)
        rw [e2]
        repeat' (first | (refine AWP.seq ?_) | (refine AWP.region av_ok ?_; conv => whnf) | (refine AWP.ret ?_; conv => whnf) | (refine AWP.skip ?_; conv => whnf) | (refine AWP.exit ?_; conv => whnf) | (refine AWP.block ?_; conv => whnf) | (refine AWP.cond ?_; conv => whnf) | (refine AB.tt ?_; conv => whnf) | (refine AB.ff ?_; conv => whnf) | (exact trivial) | (refine And.intro rfl ?_; conv => whnf) | (refine AB.mk (fun h => ?_) (fun h => ?_) <;> (conv => whnf)) | (with_reducible_and_instances rfl) | (exact (rfl : AP.tup _ = AP.tup _)))
end Go.Proofs.YtlhanpkfnhnegaaDoor
/- The scanner's method step. -/
namespace Go.Proofs.YtlhanpkfnhnegaaDoor
open Go.RowKit

theorem idxL_get {l : List (List UInt8)} {x : List UInt8} : ∀ {k : Int}, idxL l x = k → 0 ≤ k → l[k.toNat]? = some x := by
  induction l with
  | nil => intro k h h0; unfold idxL at h; omega
  | cons y r ih =>
    intro k h h0
    unfold idxL at h
    split at h
    · rename_i e; subst h; simp [e]
    · split at h
      · omega
      · have := ih (k := k - 1) (by omega) (by have := idxL_ge r x; omega)
        have e : k.toNat = (k - 1).toNat + 1 := by have := idxL_ge r x; omega
        rw [e, List.getElem?_cons_succ]; exact this
def stIx (w : List UInt8) : Int := idxL kindsL w
theorem idxL_le (l : List (List UInt8)) (x : List UInt8) : idxL l x < l.length := by
  induction l with
  | nil => show (-1 : Int) < 0; omega
  | cons y r ih => unfold idxL; rw [List.length_cons]; split; omega; split <;> omega
theorem stIx_range (w : List UInt8) : -1 ≤ stIx w ∧ stIx w ≤ 11 := by
  have h1 := idxL_ge kindsL w
  have h2 := idxL_le kindsL w
  exact ⟨h1, by have : kindsL.length = 12 := rfl; unfold stIx; omega⟩
theorem stIx_word {w : List UInt8} {k : Int} (h : 1 ≤ k ∧ k ≤ 11) : stIx w = k ↔ kindL k = w := by
  constructor
  · intro e
    have := idxL_get e (by omega)
    unfold kindL
    rw [List.getD_eq_getElem?_getD, this]; rfl
  · rintro rfl
    rcases kind_cases h.1 h.2 with rfl | rfl | rfl | rfl | rfl | rfl | rfl | rfl | rfl | rfl | rfl <;> decide
def implKind (w : List UInt8) : Int := if stIx w < 1 then 0 else stIx w
theorem implKind_range (w : List UInt8) : 0 ≤ implKind w ∧ implKind w ≤ 11 := by
  have := stIx_range w
  unfold implKind
  split <;> omega
theorem implKind_of {w : List UInt8} {k : Nat} (hk : k ≤ 11) (hno : ∀ j : Nat, k < j → j ≤ 11 → kindL j ≠ w) (he : k = 0 ∨ kindL k = w) : implKind w = k := by
  have hr := stIx_range w
  unfold implKind
  by_cases h0 : k = 0
  · subst h0
    rw [if_pos]
    · rfl
    · refine Classical.byContradiction fun h => ?_
      exact hno (stIx w).toNat (by omega) (by omega) (by rw [Int.toNat_of_nonneg (by omega)]; exact (stIx_word (by omega)).1 rfl)
  · have h1 : kindL k = w := by rcases he with h | h; exact absurd h h0; exact h
    have h2 : stIx w = k := (stIx_word (by omega)).2 h1
    rw [h2, if_neg (by omega)]

/-- What a step reads behind its word, by its kind. -/
structure StR where
  a : Int
  b : Int
  c : Int
  s : Sc
noncomputable def rNum (s : Sc) : StR := ⟨(scNum s).1, 0, 0, (scNum s).2⟩
noncomputable def rNode (s : Sc) : StR := ⟨(scNode s).1, 0, 0, (scNode s).2⟩
noncomputable def rNodeNum (s : Sc) : StR := ⟨(scNode s).1, (scNum (scNode s).2).1, 0, (scNum (scNode s).2).2⟩
noncomputable def rNodeNode (s : Sc) : StR := ⟨(scNode s).1, (scNode (scNode s).2).1, 0, (scNode (scNode s).2).2⟩
noncomputable def rNum3 (s : Sc) : StR := ⟨(scNum s).1, (scNum (scNum s).2).1, (scNum (scNum (scNum s).2).2).1, (scNum (scNum (scNum s).2).2).2⟩
noncomputable def stRead (k : Int) (s : Sc) : StR :=
  if k = 1 ∨ k = 7 ∨ k = 8 then rNum s else if k = 2 ∨ k = 6 then rNode s else if k = 3 ∨ k = 4 then rNodeNum s else if k = 9 ∨ k = 10 then rNodeNode s else if k = 11 then rNum3 s else ⟨0, 0, 0, s⟩
theorem step_m0 (s : Sc) (hs : s.ok) (hkd : implKind s.cur = 0) : MCall av 109 [.one (.ref 1000 0 0 0)] [(1000, s.o)] [(1000, (stRead 0 s.next).s.o)] [1000] (.val (.agg [.d (dI 0), .d (dI (stRead 0 s.next).a), .d (dI (stRead 0 s.next).b), .d (dI (stRead 0 s.next).c), .nil])) := by
  have wm := word_m s hs
  have h0 := hs.next
  have h1 := h0.num
  have h2 := h1.num
  have g1 := h0.node
  refine mcall_of av_ok Tryd.func109 rfl Tryd.call109 Tryd.ntmps109 (congrArg Array.toList Tryd.results109) rfl fun S pv => ?_; conv => whnf
  repeat' (first | (refine AWP.seq ?_) | (refine AWP.region av_ok ?_; conv => whnf) | (refine AWP.ret ?_; conv => whnf) | (refine AWP.skip ?_; conv => whnf) | (refine AWP.exit ?_; conv => whnf) | (refine AWP.block ?_; conv => whnf) | (refine AWP.cond ?_; conv => whnf) | (refine AB.tt ?_; conv => whnf) | (refine AB.ff ?_; conv => whnf) | (refine AB.ofT (by assumption) ?_; conv => whnf) | (refine AB.ofF (by assumption) ?_; conv => whnf) | (refine ACall.upd wm 1000 rfl rfl rfl ?_; conv => whnf) | (exact trivial) | (refine And.intro rfl ?_; conv => whnf) | (refine AB.mk (fun h => ?_) (fun h => ?_) <;> (conv => whnf)) | (with_reducible_and_instances rfl) | (exact (rfl : AP.tup _ = AP.tup _)))
  refine AWP.loopS (fun k : Nat => k ≤ 11 ∧ ∀ j : Nat, k < j → j ≤ 11 → kindL j ≠ s.cur) [8, 9, 10, 11, 12, 13, 14, 15, 16, 17, 18, 19, 20, 21] (fun k => []) (fun k => [(9999, .frame (pinsOf [1000]) pv), (1000, s.next.o), (2, .cells 47 [.d (dI 0), .d (dI 0), .d (dI 0), .d (dI 0), .nil]), (4, .cells 47 [.d (dI (k : Int)), .d (dI 0), .d (dI 0), .d (dI 0), .nil])]) (fun k => k) 11 ⟨by omega, fun j h1 h2 => by omega⟩ ?_ (SubO.cons rfl (SubO.cons rfl (SubO.cons rfl (SubO.cons rfl SubO.nil)))) (fun k hR => ?_) <;> (conv => whnf)
  · repeat' (first | exact trivial | (refine And.intro rfl ?_; conv => whnf))
  · obtain ⟨hk, hno⟩ := hR
    repeat' (first | (refine AWP.seq ?_) | (refine AWP.region av_ok ?_; conv => whnf) | (refine AWP.ret ?_; conv => whnf) | (refine AWP.skip ?_; conv => whnf) | (refine AWP.exit ?_; conv => whnf) | (refine AWP.block ?_; conv => whnf) | (refine AWP.cond ?_; conv => whnf) | (refine AB.tt ?_; conv => whnf) | (refine AB.ff ?_; conv => whnf) | (refine AB.ofT (by assumption) ?_; conv => whnf) | (refine AB.ofF (by assumption) ?_; conv => whnf) | (refine And.intro rfl ?_; conv => whnf))
    refine AB.mk (fun h => ?_) (fun h => ?_) <;> (conv => whnf)
    · repeat' (first | (refine AWP.seq ?_) | (refine AWP.region av_ok ?_; conv => whnf) | (refine AWP.ret ?_; conv => whnf) | (refine AWP.skip ?_; conv => whnf) | (refine AWP.exit ?_; conv => whnf) | (refine AWP.block ?_; conv => whnf) | (refine AWP.cond ?_; conv => whnf) | (refine AB.tt ?_; conv => whnf) | (refine AB.ff ?_; conv => whnf) | (refine AB.ofT (by assumption) ?_; conv => whnf) | (refine AB.ofF (by assumption) ?_; conv => whnf) | (refine ACall.pure (istepWord_p (k : Int) (by simp only [decide_eq_true_eq, decide_eq_false_iff_not, List.length_map, Bool.not_eq_true', Bool.not_eq_false'] at *; omega) (by simp only [decide_eq_true_eq, decide_eq_false_iff_not, List.length_map, Bool.not_eq_true', Bool.not_eq_false'] at *; omega)) rfl ?_; conv => whnf) | (refine And.intro rfl ?_; conv => whnf))
      refine AB.mk (fun h2 => ?_) (fun h2 => ?_) <;> (conv => whnf)
      · have hk1 : 1 ≤ k := (by simp only [decide_eq_true_eq, decide_eq_false_iff_not, List.length_map, Bool.not_eq_true', Bool.not_eq_false'] at *; omega)
        have hne : kindL k ≠ s.cur := by rw [str_dec] at h2; simpa using h2
        repeat' (first | (refine AWP.seq ?_) | (refine AWP.region av_ok ?_; conv => whnf) | (refine AWP.ret ?_; conv => whnf) | (refine AWP.skip ?_; conv => whnf) | (refine AWP.exit ?_; conv => whnf) | (refine AWP.block ?_; conv => whnf) | (refine AWP.cond ?_; conv => whnf) | (refine AB.tt ?_; conv => whnf) | (refine AB.ff ?_; conv => whnf) | (refine AB.ofT (by assumption) ?_; conv => whnf) | (refine AB.ofF (by assumption) ?_; conv => whnf) | (refine AW.as ((k - 1 : Nat) : Int) (by rw [wrap_i64_of (by omega) (by omega)]; omega) ?_; conv => whnf) | (refine And.intro rfl ?_; conv => whnf))
        refine ANext.mk ⟨k - 1, ⟨by omega, fun j h1 h2 => ?_⟩, by omega, ?_, SubO.cons rfl (SubO.cons rfl (SubO.cons rfl (SubO.cons rfl SubO.nil)))⟩
        · by_cases hjk : j = k
          · subst hjk; exact hne
          · exact hno j (by omega) h2
        · (conv => whnf); repeat' (first | exact trivial | (refine ⟨rfl, ?_⟩; conv => whnf))
      · have heq : kindL k = s.cur := by rw [str_dec] at h2; simpa using h2
        have hkk : k = 0 := by have := implKind_of hk hno (.inr heq); omega
        subst hkk
        clear h h2 hno
        repeat' (first | (refine AWP.seq ?_) | (refine AWP.region av_ok ?_; conv => whnf) | (refine AWP.ret ?_; conv => whnf) | (refine AWP.skip ?_; conv => whnf) | (refine AWP.exit ?_; conv => whnf) | (refine AWP.block ?_; conv => whnf) | (refine AWP.cond ?_; conv => whnf) | (refine AB.tt ?_; conv => whnf) | (refine AB.ff ?_; conv => whnf) | (refine AB.ofT (by assumption) ?_; conv => whnf) | (refine AB.ofF (by assumption) ?_; conv => whnf) | (refine AB.ofT (by decide) ?_; conv => whnf) | (refine AB.ofF (by decide) ?_; conv => whnf) | (refine ACall.upd (number_m _ h0) 1000 rfl rfl rfl ?_; conv => whnf) | (refine ACall.upd (number_m _ h1) 1000 rfl rfl rfl ?_; conv => whnf) | (refine ACall.upd (number_m _ h2) 1000 rfl rfl rfl ?_; conv => whnf) | (refine ACall.upd (node_m _ h0) 1000 rfl rfl rfl ?_; conv => whnf) | (refine ACall.upd (number_m _ g1) 1000 rfl rfl rfl ?_; conv => whnf) | (refine ACall.upd (node_m _ g1) 1000 rfl rfl rfl ?_; conv => whnf) | (exact trivial) | (refine And.intro rfl ?_; conv => whnf))
    · have hkk : k = 0 := by have := implKind_of hk hno (.inl (by simp only [decide_eq_true_eq, decide_eq_false_iff_not, List.length_map, Bool.not_eq_true', Bool.not_eq_false'] at *; omega)); omega
      subst hkk
      clear hno
      repeat' (first | (refine AWP.seq ?_) | (refine AWP.region av_ok ?_; conv => whnf) | (refine AWP.ret ?_; conv => whnf) | (refine AWP.skip ?_; conv => whnf) | (refine AWP.exit ?_; conv => whnf) | (refine AWP.block ?_; conv => whnf) | (refine AWP.cond ?_; conv => whnf) | (refine AB.tt ?_; conv => whnf) | (refine AB.ff ?_; conv => whnf) | (refine AB.ofT (by assumption) ?_; conv => whnf) | (refine AB.ofF (by assumption) ?_; conv => whnf) | (refine AB.ofT (by decide) ?_; conv => whnf) | (refine AB.ofF (by decide) ?_; conv => whnf) | (refine ACall.upd (number_m _ h0) 1000 rfl rfl rfl ?_; conv => whnf) | (refine ACall.upd (number_m _ h1) 1000 rfl rfl rfl ?_; conv => whnf) | (refine ACall.upd (number_m _ h2) 1000 rfl rfl rfl ?_; conv => whnf) | (refine ACall.upd (node_m _ h0) 1000 rfl rfl rfl ?_; conv => whnf) | (refine ACall.upd (number_m _ g1) 1000 rfl rfl rfl ?_; conv => whnf) | (refine ACall.upd (node_m _ g1) 1000 rfl rfl rfl ?_; conv => whnf) | (exact trivial) | (refine And.intro rfl ?_; conv => whnf))
theorem step_m1 (s : Sc) (hs : s.ok) (hkd : implKind s.cur = 1) : MCall av 109 [.one (.ref 1000 0 0 0)] [(1000, s.o)] [(1000, (stRead 1 s.next).s.o)] [1000] (.val (.agg [.d (dI 1), .d (dI (stRead 1 s.next).a), .d (dI (stRead 1 s.next).b), .d (dI (stRead 1 s.next).c), .nil])) := by
  have wm := word_m s hs
  have h0 := hs.next
  have h1 := h0.num
  have h2 := h1.num
  have g1 := h0.node
  refine mcall_of av_ok Tryd.func109 rfl Tryd.call109 Tryd.ntmps109 (congrArg Array.toList Tryd.results109) rfl fun S pv => ?_; conv => whnf
  repeat' (first | (refine AWP.seq ?_) | (refine AWP.region av_ok ?_; conv => whnf) | (refine AWP.ret ?_; conv => whnf) | (refine AWP.skip ?_; conv => whnf) | (refine AWP.exit ?_; conv => whnf) | (refine AWP.block ?_; conv => whnf) | (refine AWP.cond ?_; conv => whnf) | (refine AB.tt ?_; conv => whnf) | (refine AB.ff ?_; conv => whnf) | (refine AB.ofT (by assumption) ?_; conv => whnf) | (refine AB.ofF (by assumption) ?_; conv => whnf) | (refine ACall.upd wm 1000 rfl rfl rfl ?_; conv => whnf) | (exact trivial) | (refine And.intro rfl ?_; conv => whnf) | (refine AB.mk (fun h => ?_) (fun h => ?_) <;> (conv => whnf)) | (with_reducible_and_instances rfl) | (exact (rfl : AP.tup _ = AP.tup _)))
  refine AWP.loopS (fun k : Nat => k ≤ 11 ∧ ∀ j : Nat, k < j → j ≤ 11 → kindL j ≠ s.cur) [8, 9, 10, 11, 12, 13, 14, 15, 16, 17, 18, 19, 20, 21] (fun k => []) (fun k => [(9999, .frame (pinsOf [1000]) pv), (1000, s.next.o), (2, .cells 47 [.d (dI 0), .d (dI 0), .d (dI 0), .d (dI 0), .nil]), (4, .cells 47 [.d (dI (k : Int)), .d (dI 0), .d (dI 0), .d (dI 0), .nil])]) (fun k => k) 11 ⟨by omega, fun j h1 h2 => by omega⟩ ?_ (SubO.cons rfl (SubO.cons rfl (SubO.cons rfl (SubO.cons rfl SubO.nil)))) (fun k hR => ?_) <;> (conv => whnf)
  · repeat' (first | exact trivial | (refine And.intro rfl ?_; conv => whnf))
  · obtain ⟨hk, hno⟩ := hR
    repeat' (first | (refine AWP.seq ?_) | (refine AWP.region av_ok ?_; conv => whnf) | (refine AWP.ret ?_; conv => whnf) | (refine AWP.skip ?_; conv => whnf) | (refine AWP.exit ?_; conv => whnf) | (refine AWP.block ?_; conv => whnf) | (refine AWP.cond ?_; conv => whnf) | (refine AB.tt ?_; conv => whnf) | (refine AB.ff ?_; conv => whnf) | (refine AB.ofT (by assumption) ?_; conv => whnf) | (refine AB.ofF (by assumption) ?_; conv => whnf) | (refine And.intro rfl ?_; conv => whnf))
    refine AB.mk (fun h => ?_) (fun h => ?_) <;> (conv => whnf)
    · repeat' (first | (refine AWP.seq ?_) | (refine AWP.region av_ok ?_; conv => whnf) | (refine AWP.ret ?_; conv => whnf) | (refine AWP.skip ?_; conv => whnf) | (refine AWP.exit ?_; conv => whnf) | (refine AWP.block ?_; conv => whnf) | (refine AWP.cond ?_; conv => whnf) | (refine AB.tt ?_; conv => whnf) | (refine AB.ff ?_; conv => whnf) | (refine AB.ofT (by assumption) ?_; conv => whnf) | (refine AB.ofF (by assumption) ?_; conv => whnf) | (refine ACall.pure (istepWord_p (k : Int) (by simp only [decide_eq_true_eq, decide_eq_false_iff_not, List.length_map, Bool.not_eq_true', Bool.not_eq_false'] at *; omega) (by simp only [decide_eq_true_eq, decide_eq_false_iff_not, List.length_map, Bool.not_eq_true', Bool.not_eq_false'] at *; omega)) rfl ?_; conv => whnf) | (refine And.intro rfl ?_; conv => whnf))
      refine AB.mk (fun h2 => ?_) (fun h2 => ?_) <;> (conv => whnf)
      · have hk1 : 1 ≤ k := (by simp only [decide_eq_true_eq, decide_eq_false_iff_not, List.length_map, Bool.not_eq_true', Bool.not_eq_false'] at *; omega)
        have hne : kindL k ≠ s.cur := by rw [str_dec] at h2; simpa using h2
        repeat' (first | (refine AWP.seq ?_) | (refine AWP.region av_ok ?_; conv => whnf) | (refine AWP.ret ?_; conv => whnf) | (refine AWP.skip ?_; conv => whnf) | (refine AWP.exit ?_; conv => whnf) | (refine AWP.block ?_; conv => whnf) | (refine AWP.cond ?_; conv => whnf) | (refine AB.tt ?_; conv => whnf) | (refine AB.ff ?_; conv => whnf) | (refine AB.ofT (by assumption) ?_; conv => whnf) | (refine AB.ofF (by assumption) ?_; conv => whnf) | (refine AW.as ((k - 1 : Nat) : Int) (by rw [wrap_i64_of (by omega) (by omega)]; omega) ?_; conv => whnf) | (refine And.intro rfl ?_; conv => whnf))
        refine ANext.mk ⟨k - 1, ⟨by omega, fun j h1 h2 => ?_⟩, by omega, ?_, SubO.cons rfl (SubO.cons rfl (SubO.cons rfl (SubO.cons rfl SubO.nil)))⟩
        · by_cases hjk : j = k
          · subst hjk; exact hne
          · exact hno j (by omega) h2
        · (conv => whnf); repeat' (first | exact trivial | (refine ⟨rfl, ?_⟩; conv => whnf))
      · have heq : kindL k = s.cur := by rw [str_dec] at h2; simpa using h2
        have hkk : k = 1 := by have := implKind_of hk hno (.inr heq); omega
        subst hkk
        clear h h2 hno
        repeat' (first | (refine AWP.seq ?_) | (refine AWP.region av_ok ?_; conv => whnf) | (refine AWP.ret ?_; conv => whnf) | (refine AWP.skip ?_; conv => whnf) | (refine AWP.exit ?_; conv => whnf) | (refine AWP.block ?_; conv => whnf) | (refine AWP.cond ?_; conv => whnf) | (refine AB.tt ?_; conv => whnf) | (refine AB.ff ?_; conv => whnf) | (refine AB.ofT (by assumption) ?_; conv => whnf) | (refine AB.ofF (by assumption) ?_; conv => whnf) | (refine AB.ofT (by decide) ?_; conv => whnf) | (refine AB.ofF (by decide) ?_; conv => whnf) | (refine ACall.upd (number_m _ h0) 1000 rfl rfl rfl ?_; conv => whnf) | (refine ACall.upd (number_m _ h1) 1000 rfl rfl rfl ?_; conv => whnf) | (refine ACall.upd (number_m _ h2) 1000 rfl rfl rfl ?_; conv => whnf) | (refine ACall.upd (node_m _ h0) 1000 rfl rfl rfl ?_; conv => whnf) | (refine ACall.upd (number_m _ g1) 1000 rfl rfl rfl ?_; conv => whnf) | (refine ACall.upd (node_m _ g1) 1000 rfl rfl rfl ?_; conv => whnf) | (exact trivial) | (refine And.intro rfl ?_; conv => whnf))
    · have hkk : k = 1 := by have := implKind_of hk hno (.inl (by simp only [decide_eq_true_eq, decide_eq_false_iff_not, List.length_map, Bool.not_eq_true', Bool.not_eq_false'] at *; omega)); omega
      subst hkk
      clear hno
      repeat' (first | (refine AWP.seq ?_) | (refine AWP.region av_ok ?_; conv => whnf) | (refine AWP.ret ?_; conv => whnf) | (refine AWP.skip ?_; conv => whnf) | (refine AWP.exit ?_; conv => whnf) | (refine AWP.block ?_; conv => whnf) | (refine AWP.cond ?_; conv => whnf) | (refine AB.tt ?_; conv => whnf) | (refine AB.ff ?_; conv => whnf) | (refine AB.ofT (by assumption) ?_; conv => whnf) | (refine AB.ofF (by assumption) ?_; conv => whnf) | (refine AB.ofT (by decide) ?_; conv => whnf) | (refine AB.ofF (by decide) ?_; conv => whnf) | (refine ACall.upd (number_m _ h0) 1000 rfl rfl rfl ?_; conv => whnf) | (refine ACall.upd (number_m _ h1) 1000 rfl rfl rfl ?_; conv => whnf) | (refine ACall.upd (number_m _ h2) 1000 rfl rfl rfl ?_; conv => whnf) | (refine ACall.upd (node_m _ h0) 1000 rfl rfl rfl ?_; conv => whnf) | (refine ACall.upd (number_m _ g1) 1000 rfl rfl rfl ?_; conv => whnf) | (refine ACall.upd (node_m _ g1) 1000 rfl rfl rfl ?_; conv => whnf) | (exact trivial) | (refine And.intro rfl ?_; conv => whnf))
theorem step_m2 (s : Sc) (hs : s.ok) (hkd : implKind s.cur = 2) : MCall av 109 [.one (.ref 1000 0 0 0)] [(1000, s.o)] [(1000, (stRead 2 s.next).s.o)] [1000] (.val (.agg [.d (dI 2), .d (dI (stRead 2 s.next).a), .d (dI (stRead 2 s.next).b), .d (dI (stRead 2 s.next).c), .nil])) := by
  have wm := word_m s hs
  have h0 := hs.next
  have h1 := h0.num
  have h2 := h1.num
  have g1 := h0.node
  refine mcall_of av_ok Tryd.func109 rfl Tryd.call109 Tryd.ntmps109 (congrArg Array.toList Tryd.results109) rfl fun S pv => ?_; conv => whnf
  repeat' (first | (refine AWP.seq ?_) | (refine AWP.region av_ok ?_; conv => whnf) | (refine AWP.ret ?_; conv => whnf) | (refine AWP.skip ?_; conv => whnf) | (refine AWP.exit ?_; conv => whnf) | (refine AWP.block ?_; conv => whnf) | (refine AWP.cond ?_; conv => whnf) | (refine AB.tt ?_; conv => whnf) | (refine AB.ff ?_; conv => whnf) | (refine AB.ofT (by assumption) ?_; conv => whnf) | (refine AB.ofF (by assumption) ?_; conv => whnf) | (refine ACall.upd wm 1000 rfl rfl rfl ?_; conv => whnf) | (exact trivial) | (refine And.intro rfl ?_; conv => whnf) | (refine AB.mk (fun h => ?_) (fun h => ?_) <;> (conv => whnf)) | (with_reducible_and_instances rfl) | (exact (rfl : AP.tup _ = AP.tup _)))
  refine AWP.loopS (fun k : Nat => k ≤ 11 ∧ ∀ j : Nat, k < j → j ≤ 11 → kindL j ≠ s.cur) [8, 9, 10, 11, 12, 13, 14, 15, 16, 17, 18, 19, 20, 21] (fun k => []) (fun k => [(9999, .frame (pinsOf [1000]) pv), (1000, s.next.o), (2, .cells 47 [.d (dI 0), .d (dI 0), .d (dI 0), .d (dI 0), .nil]), (4, .cells 47 [.d (dI (k : Int)), .d (dI 0), .d (dI 0), .d (dI 0), .nil])]) (fun k => k) 11 ⟨by omega, fun j h1 h2 => by omega⟩ ?_ (SubO.cons rfl (SubO.cons rfl (SubO.cons rfl (SubO.cons rfl SubO.nil)))) (fun k hR => ?_) <;> (conv => whnf)
  · repeat' (first | exact trivial | (refine And.intro rfl ?_; conv => whnf))
  · obtain ⟨hk, hno⟩ := hR
    repeat' (first | (refine AWP.seq ?_) | (refine AWP.region av_ok ?_; conv => whnf) | (refine AWP.ret ?_; conv => whnf) | (refine AWP.skip ?_; conv => whnf) | (refine AWP.exit ?_; conv => whnf) | (refine AWP.block ?_; conv => whnf) | (refine AWP.cond ?_; conv => whnf) | (refine AB.tt ?_; conv => whnf) | (refine AB.ff ?_; conv => whnf) | (refine AB.ofT (by assumption) ?_; conv => whnf) | (refine AB.ofF (by assumption) ?_; conv => whnf) | (refine And.intro rfl ?_; conv => whnf))
    refine AB.mk (fun h => ?_) (fun h => ?_) <;> (conv => whnf)
    · repeat' (first | (refine AWP.seq ?_) | (refine AWP.region av_ok ?_; conv => whnf) | (refine AWP.ret ?_; conv => whnf) | (refine AWP.skip ?_; conv => whnf) | (refine AWP.exit ?_; conv => whnf) | (refine AWP.block ?_; conv => whnf) | (refine AWP.cond ?_; conv => whnf) | (refine AB.tt ?_; conv => whnf) | (refine AB.ff ?_; conv => whnf) | (refine AB.ofT (by assumption) ?_; conv => whnf) | (refine AB.ofF (by assumption) ?_; conv => whnf) | (refine ACall.pure (istepWord_p (k : Int) (by simp only [decide_eq_true_eq, decide_eq_false_iff_not, List.length_map, Bool.not_eq_true', Bool.not_eq_false'] at *; omega) (by simp only [decide_eq_true_eq, decide_eq_false_iff_not, List.length_map, Bool.not_eq_true', Bool.not_eq_false'] at *; omega)) rfl ?_; conv => whnf) | (refine And.intro rfl ?_; conv => whnf))
      refine AB.mk (fun h2 => ?_) (fun h2 => ?_) <;> (conv => whnf)
      · have hk1 : 1 ≤ k := (by simp only [decide_eq_true_eq, decide_eq_false_iff_not, List.length_map, Bool.not_eq_true', Bool.not_eq_false'] at *; omega)
        have hne : kindL k ≠ s.cur := by rw [str_dec] at h2; simpa using h2
        repeat' (first | (refine AWP.seq ?_) | (refine AWP.region av_ok ?_; conv => whnf) | (refine AWP.ret ?_; conv => whnf) | (refine AWP.skip ?_; conv => whnf) | (refine AWP.exit ?_; conv => whnf) | (refine AWP.block ?_; conv => whnf) | (refine AWP.cond ?_; conv => whnf) | (refine AB.tt ?_; conv => whnf) | (refine AB.ff ?_; conv => whnf) | (refine AB.ofT (by assumption) ?_; conv => whnf) | (refine AB.ofF (by assumption) ?_; conv => whnf) | (refine AW.as ((k - 1 : Nat) : Int) (by rw [wrap_i64_of (by omega) (by omega)]; omega) ?_; conv => whnf) | (refine And.intro rfl ?_; conv => whnf))
        refine ANext.mk ⟨k - 1, ⟨by omega, fun j h1 h2 => ?_⟩, by omega, ?_, SubO.cons rfl (SubO.cons rfl (SubO.cons rfl (SubO.cons rfl SubO.nil)))⟩
        · by_cases hjk : j = k
          · subst hjk; exact hne
          · exact hno j (by omega) h2
        · (conv => whnf); repeat' (first | exact trivial | (refine ⟨rfl, ?_⟩; conv => whnf))
      · have heq : kindL k = s.cur := by rw [str_dec] at h2; simpa using h2
        have hkk : k = 2 := by have := implKind_of hk hno (.inr heq); omega
        subst hkk
        clear h h2 hno
        repeat' (first | (refine AWP.seq ?_) | (refine AWP.region av_ok ?_; conv => whnf) | (refine AWP.ret ?_; conv => whnf) | (refine AWP.skip ?_; conv => whnf) | (refine AWP.exit ?_; conv => whnf) | (refine AWP.block ?_; conv => whnf) | (refine AWP.cond ?_; conv => whnf) | (refine AB.tt ?_; conv => whnf) | (refine AB.ff ?_; conv => whnf) | (refine AB.ofT (by assumption) ?_; conv => whnf) | (refine AB.ofF (by assumption) ?_; conv => whnf) | (refine AB.ofT (by decide) ?_; conv => whnf) | (refine AB.ofF (by decide) ?_; conv => whnf) | (refine ACall.upd (number_m _ h0) 1000 rfl rfl rfl ?_; conv => whnf) | (refine ACall.upd (number_m _ h1) 1000 rfl rfl rfl ?_; conv => whnf) | (refine ACall.upd (number_m _ h2) 1000 rfl rfl rfl ?_; conv => whnf) | (refine ACall.upd (node_m _ h0) 1000 rfl rfl rfl ?_; conv => whnf) | (refine ACall.upd (number_m _ g1) 1000 rfl rfl rfl ?_; conv => whnf) | (refine ACall.upd (node_m _ g1) 1000 rfl rfl rfl ?_; conv => whnf) | (exact trivial) | (refine And.intro rfl ?_; conv => whnf))
    · have hkk : k = 2 := by have := implKind_of hk hno (.inl (by simp only [decide_eq_true_eq, decide_eq_false_iff_not, List.length_map, Bool.not_eq_true', Bool.not_eq_false'] at *; omega)); omega
      subst hkk
      clear hno
      repeat' (first | (refine AWP.seq ?_) | (refine AWP.region av_ok ?_; conv => whnf) | (refine AWP.ret ?_; conv => whnf) | (refine AWP.skip ?_; conv => whnf) | (refine AWP.exit ?_; conv => whnf) | (refine AWP.block ?_; conv => whnf) | (refine AWP.cond ?_; conv => whnf) | (refine AB.tt ?_; conv => whnf) | (refine AB.ff ?_; conv => whnf) | (refine AB.ofT (by assumption) ?_; conv => whnf) | (refine AB.ofF (by assumption) ?_; conv => whnf) | (refine AB.ofT (by decide) ?_; conv => whnf) | (refine AB.ofF (by decide) ?_; conv => whnf) | (refine ACall.upd (number_m _ h0) 1000 rfl rfl rfl ?_; conv => whnf) | (refine ACall.upd (number_m _ h1) 1000 rfl rfl rfl ?_; conv => whnf) | (refine ACall.upd (number_m _ h2) 1000 rfl rfl rfl ?_; conv => whnf) | (refine ACall.upd (node_m _ h0) 1000 rfl rfl rfl ?_; conv => whnf) | (refine ACall.upd (number_m _ g1) 1000 rfl rfl rfl ?_; conv => whnf) | (refine ACall.upd (node_m _ g1) 1000 rfl rfl rfl ?_; conv => whnf) | (exact trivial) | (refine And.intro rfl ?_; conv => whnf))
theorem step_m3 (s : Sc) (hs : s.ok) (hkd : implKind s.cur = 3) : MCall av 109 [.one (.ref 1000 0 0 0)] [(1000, s.o)] [(1000, (stRead 3 s.next).s.o)] [1000] (.val (.agg [.d (dI 3), .d (dI (stRead 3 s.next).a), .d (dI (stRead 3 s.next).b), .d (dI (stRead 3 s.next).c), .nil])) := by
  have wm := word_m s hs
  have h0 := hs.next
  have h1 := h0.num
  have h2 := h1.num
  have g1 := h0.node
  refine mcall_of av_ok Tryd.func109 rfl Tryd.call109 Tryd.ntmps109 (congrArg Array.toList Tryd.results109) rfl fun S pv => ?_; conv => whnf
  repeat' (first | (refine AWP.seq ?_) | (refine AWP.region av_ok ?_; conv => whnf) | (refine AWP.ret ?_; conv => whnf) | (refine AWP.skip ?_; conv => whnf) | (refine AWP.exit ?_; conv => whnf) | (refine AWP.block ?_; conv => whnf) | (refine AWP.cond ?_; conv => whnf) | (refine AB.tt ?_; conv => whnf) | (refine AB.ff ?_; conv => whnf) | (refine AB.ofT (by assumption) ?_; conv => whnf) | (refine AB.ofF (by assumption) ?_; conv => whnf) | (refine ACall.upd wm 1000 rfl rfl rfl ?_; conv => whnf) | (exact trivial) | (refine And.intro rfl ?_; conv => whnf) | (refine AB.mk (fun h => ?_) (fun h => ?_) <;> (conv => whnf)) | (with_reducible_and_instances rfl) | (exact (rfl : AP.tup _ = AP.tup _)))
  refine AWP.loopS (fun k : Nat => k ≤ 11 ∧ ∀ j : Nat, k < j → j ≤ 11 → kindL j ≠ s.cur) [8, 9, 10, 11, 12, 13, 14, 15, 16, 17, 18, 19, 20, 21] (fun k => []) (fun k => [(9999, .frame (pinsOf [1000]) pv), (1000, s.next.o), (2, .cells 47 [.d (dI 0), .d (dI 0), .d (dI 0), .d (dI 0), .nil]), (4, .cells 47 [.d (dI (k : Int)), .d (dI 0), .d (dI 0), .d (dI 0), .nil])]) (fun k => k) 11 ⟨by omega, fun j h1 h2 => by omega⟩ ?_ (SubO.cons rfl (SubO.cons rfl (SubO.cons rfl (SubO.cons rfl SubO.nil)))) (fun k hR => ?_) <;> (conv => whnf)
  · repeat' (first | exact trivial | (refine And.intro rfl ?_; conv => whnf))
  · obtain ⟨hk, hno⟩ := hR
    repeat' (first | (refine AWP.seq ?_) | (refine AWP.region av_ok ?_; conv => whnf) | (refine AWP.ret ?_; conv => whnf) | (refine AWP.skip ?_; conv => whnf) | (refine AWP.exit ?_; conv => whnf) | (refine AWP.block ?_; conv => whnf) | (refine AWP.cond ?_; conv => whnf) | (refine AB.tt ?_; conv => whnf) | (refine AB.ff ?_; conv => whnf) | (refine AB.ofT (by assumption) ?_; conv => whnf) | (refine AB.ofF (by assumption) ?_; conv => whnf) | (refine And.intro rfl ?_; conv => whnf))
    refine AB.mk (fun h => ?_) (fun h => ?_) <;> (conv => whnf)
    · repeat' (first | (refine AWP.seq ?_) | (refine AWP.region av_ok ?_; conv => whnf) | (refine AWP.ret ?_; conv => whnf) | (refine AWP.skip ?_; conv => whnf) | (refine AWP.exit ?_; conv => whnf) | (refine AWP.block ?_; conv => whnf) | (refine AWP.cond ?_; conv => whnf) | (refine AB.tt ?_; conv => whnf) | (refine AB.ff ?_; conv => whnf) | (refine AB.ofT (by assumption) ?_; conv => whnf) | (refine AB.ofF (by assumption) ?_; conv => whnf) | (refine ACall.pure (istepWord_p (k : Int) (by simp only [decide_eq_true_eq, decide_eq_false_iff_not, List.length_map, Bool.not_eq_true', Bool.not_eq_false'] at *; omega) (by simp only [decide_eq_true_eq, decide_eq_false_iff_not, List.length_map, Bool.not_eq_true', Bool.not_eq_false'] at *; omega)) rfl ?_; conv => whnf) | (refine And.intro rfl ?_; conv => whnf))
      refine AB.mk (fun h2 => ?_) (fun h2 => ?_) <;> (conv => whnf)
      · have hk1 : 1 ≤ k := (by simp only [decide_eq_true_eq, decide_eq_false_iff_not, List.length_map, Bool.not_eq_true', Bool.not_eq_false'] at *; omega)
        have hne : kindL k ≠ s.cur := by rw [str_dec] at h2; simpa using h2
        repeat' (first | (refine AWP.seq ?_) | (refine AWP.region av_ok ?_; conv => whnf) | (refine AWP.ret ?_; conv => whnf) | (refine AWP.skip ?_; conv => whnf) | (refine AWP.exit ?_; conv => whnf) | (refine AWP.block ?_; conv => whnf) | (refine AWP.cond ?_; conv => whnf) | (refine AB.tt ?_; conv => whnf) | (refine AB.ff ?_; conv => whnf) | (refine AB.ofT (by assumption) ?_; conv => whnf) | (refine AB.ofF (by assumption) ?_; conv => whnf) | (refine AW.as ((k - 1 : Nat) : Int) (by rw [wrap_i64_of (by omega) (by omega)]; omega) ?_; conv => whnf) | (refine And.intro rfl ?_; conv => whnf))
        refine ANext.mk ⟨k - 1, ⟨by omega, fun j h1 h2 => ?_⟩, by omega, ?_, SubO.cons rfl (SubO.cons rfl (SubO.cons rfl (SubO.cons rfl SubO.nil)))⟩
        · by_cases hjk : j = k
          · subst hjk; exact hne
          · exact hno j (by omega) h2
        · (conv => whnf); repeat' (first | exact trivial | (refine ⟨rfl, ?_⟩; conv => whnf))
      · have heq : kindL k = s.cur := by rw [str_dec] at h2; simpa using h2
        have hkk : k = 3 := by have := implKind_of hk hno (.inr heq); omega
        subst hkk
        clear h h2 hno
        repeat' (first | (refine AWP.seq ?_) | (refine AWP.region av_ok ?_; conv => whnf) | (refine AWP.ret ?_; conv => whnf) | (refine AWP.skip ?_; conv => whnf) | (refine AWP.exit ?_; conv => whnf) | (refine AWP.block ?_; conv => whnf) | (refine AWP.cond ?_; conv => whnf) | (refine AB.tt ?_; conv => whnf) | (refine AB.ff ?_; conv => whnf) | (refine AB.ofT (by assumption) ?_; conv => whnf) | (refine AB.ofF (by assumption) ?_; conv => whnf) | (refine AB.ofT (by decide) ?_; conv => whnf) | (refine AB.ofF (by decide) ?_; conv => whnf) | (refine ACall.upd (number_m _ h0) 1000 rfl rfl rfl ?_; conv => whnf) | (refine ACall.upd (number_m _ h1) 1000 rfl rfl rfl ?_; conv => whnf) | (refine ACall.upd (number_m _ h2) 1000 rfl rfl rfl ?_; conv => whnf) | (refine ACall.upd (node_m _ h0) 1000 rfl rfl rfl ?_; conv => whnf) | (refine ACall.upd (number_m _ g1) 1000 rfl rfl rfl ?_; conv => whnf) | (refine ACall.upd (node_m _ g1) 1000 rfl rfl rfl ?_; conv => whnf) | (exact trivial) | (refine And.intro rfl ?_; conv => whnf))
    · have hkk : k = 3 := by have := implKind_of hk hno (.inl (by simp only [decide_eq_true_eq, decide_eq_false_iff_not, List.length_map, Bool.not_eq_true', Bool.not_eq_false'] at *; omega)); omega
      subst hkk
      clear hno
      repeat' (first | (refine AWP.seq ?_) | (refine AWP.region av_ok ?_; conv => whnf) | (refine AWP.ret ?_; conv => whnf) | (refine AWP.skip ?_; conv => whnf) | (refine AWP.exit ?_; conv => whnf) | (refine AWP.block ?_; conv => whnf) | (refine AWP.cond ?_; conv => whnf) | (refine AB.tt ?_; conv => whnf) | (refine AB.ff ?_; conv => whnf) | (refine AB.ofT (by assumption) ?_; conv => whnf) | (refine AB.ofF (by assumption) ?_; conv => whnf) | (refine AB.ofT (by decide) ?_; conv => whnf) | (refine AB.ofF (by decide) ?_; conv => whnf) | (refine ACall.upd (number_m _ h0) 1000 rfl rfl rfl ?_; conv => whnf) | (refine ACall.upd (number_m _ h1) 1000 rfl rfl rfl ?_; conv => whnf) | (refine ACall.upd (number_m _ h2) 1000 rfl rfl rfl ?_; conv => whnf) | (refine ACall.upd (node_m _ h0) 1000 rfl rfl rfl ?_; conv => whnf) | (refine ACall.upd (number_m _ g1) 1000 rfl rfl rfl ?_; conv => whnf) | (refine ACall.upd (node_m _ g1) 1000 rfl rfl rfl ?_; conv => whnf) | (exact trivial) | (refine And.intro rfl ?_; conv => whnf))
theorem step_m4 (s : Sc) (hs : s.ok) (hkd : implKind s.cur = 4) : MCall av 109 [.one (.ref 1000 0 0 0)] [(1000, s.o)] [(1000, (stRead 4 s.next).s.o)] [1000] (.val (.agg [.d (dI 4), .d (dI (stRead 4 s.next).a), .d (dI (stRead 4 s.next).b), .d (dI (stRead 4 s.next).c), .nil])) := by
  have wm := word_m s hs
  have h0 := hs.next
  have h1 := h0.num
  have h2 := h1.num
  have g1 := h0.node
  refine mcall_of av_ok Tryd.func109 rfl Tryd.call109 Tryd.ntmps109 (congrArg Array.toList Tryd.results109) rfl fun S pv => ?_; conv => whnf
  repeat' (first | (refine AWP.seq ?_) | (refine AWP.region av_ok ?_; conv => whnf) | (refine AWP.ret ?_; conv => whnf) | (refine AWP.skip ?_; conv => whnf) | (refine AWP.exit ?_; conv => whnf) | (refine AWP.block ?_; conv => whnf) | (refine AWP.cond ?_; conv => whnf) | (refine AB.tt ?_; conv => whnf) | (refine AB.ff ?_; conv => whnf) | (refine AB.ofT (by assumption) ?_; conv => whnf) | (refine AB.ofF (by assumption) ?_; conv => whnf) | (refine ACall.upd wm 1000 rfl rfl rfl ?_; conv => whnf) | (exact trivial) | (refine And.intro rfl ?_; conv => whnf) | (refine AB.mk (fun h => ?_) (fun h => ?_) <;> (conv => whnf)) | (with_reducible_and_instances rfl) | (exact (rfl : AP.tup _ = AP.tup _)))
  refine AWP.loopS (fun k : Nat => k ≤ 11 ∧ ∀ j : Nat, k < j → j ≤ 11 → kindL j ≠ s.cur) [8, 9, 10, 11, 12, 13, 14, 15, 16, 17, 18, 19, 20, 21] (fun k => []) (fun k => [(9999, .frame (pinsOf [1000]) pv), (1000, s.next.o), (2, .cells 47 [.d (dI 0), .d (dI 0), .d (dI 0), .d (dI 0), .nil]), (4, .cells 47 [.d (dI (k : Int)), .d (dI 0), .d (dI 0), .d (dI 0), .nil])]) (fun k => k) 11 ⟨by omega, fun j h1 h2 => by omega⟩ ?_ (SubO.cons rfl (SubO.cons rfl (SubO.cons rfl (SubO.cons rfl SubO.nil)))) (fun k hR => ?_) <;> (conv => whnf)
  · repeat' (first | exact trivial | (refine And.intro rfl ?_; conv => whnf))
  · obtain ⟨hk, hno⟩ := hR
    repeat' (first | (refine AWP.seq ?_) | (refine AWP.region av_ok ?_; conv => whnf) | (refine AWP.ret ?_; conv => whnf) | (refine AWP.skip ?_; conv => whnf) | (refine AWP.exit ?_; conv => whnf) | (refine AWP.block ?_; conv => whnf) | (refine AWP.cond ?_; conv => whnf) | (refine AB.tt ?_; conv => whnf) | (refine AB.ff ?_; conv => whnf) | (refine AB.ofT (by assumption) ?_; conv => whnf) | (refine AB.ofF (by assumption) ?_; conv => whnf) | (refine And.intro rfl ?_; conv => whnf))
    refine AB.mk (fun h => ?_) (fun h => ?_) <;> (conv => whnf)
    · repeat' (first | (refine AWP.seq ?_) | (refine AWP.region av_ok ?_; conv => whnf) | (refine AWP.ret ?_; conv => whnf) | (refine AWP.skip ?_; conv => whnf) | (refine AWP.exit ?_; conv => whnf) | (refine AWP.block ?_; conv => whnf) | (refine AWP.cond ?_; conv => whnf) | (refine AB.tt ?_; conv => whnf) | (refine AB.ff ?_; conv => whnf) | (refine AB.ofT (by assumption) ?_; conv => whnf) | (refine AB.ofF (by assumption) ?_; conv => whnf) | (refine ACall.pure (istepWord_p (k : Int) (by simp only [decide_eq_true_eq, decide_eq_false_iff_not, List.length_map, Bool.not_eq_true', Bool.not_eq_false'] at *; omega) (by simp only [decide_eq_true_eq, decide_eq_false_iff_not, List.length_map, Bool.not_eq_true', Bool.not_eq_false'] at *; omega)) rfl ?_; conv => whnf) | (refine And.intro rfl ?_; conv => whnf))
      refine AB.mk (fun h2 => ?_) (fun h2 => ?_) <;> (conv => whnf)
      · have hk1 : 1 ≤ k := (by simp only [decide_eq_true_eq, decide_eq_false_iff_not, List.length_map, Bool.not_eq_true', Bool.not_eq_false'] at *; omega)
        have hne : kindL k ≠ s.cur := by rw [str_dec] at h2; simpa using h2
        repeat' (first | (refine AWP.seq ?_) | (refine AWP.region av_ok ?_; conv => whnf) | (refine AWP.ret ?_; conv => whnf) | (refine AWP.skip ?_; conv => whnf) | (refine AWP.exit ?_; conv => whnf) | (refine AWP.block ?_; conv => whnf) | (refine AWP.cond ?_; conv => whnf) | (refine AB.tt ?_; conv => whnf) | (refine AB.ff ?_; conv => whnf) | (refine AB.ofT (by assumption) ?_; conv => whnf) | (refine AB.ofF (by assumption) ?_; conv => whnf) | (refine AW.as ((k - 1 : Nat) : Int) (by rw [wrap_i64_of (by omega) (by omega)]; omega) ?_; conv => whnf) | (refine And.intro rfl ?_; conv => whnf))
        refine ANext.mk ⟨k - 1, ⟨by omega, fun j h1 h2 => ?_⟩, by omega, ?_, SubO.cons rfl (SubO.cons rfl (SubO.cons rfl (SubO.cons rfl SubO.nil)))⟩
        · by_cases hjk : j = k
          · subst hjk; exact hne
          · exact hno j (by omega) h2
        · (conv => whnf); repeat' (first | exact trivial | (refine ⟨rfl, ?_⟩; conv => whnf))
      · have heq : kindL k = s.cur := by rw [str_dec] at h2; simpa using h2
        have hkk : k = 4 := by have := implKind_of hk hno (.inr heq); omega
        subst hkk
        clear h h2 hno
        repeat' (first | (refine AWP.seq ?_) | (refine AWP.region av_ok ?_; conv => whnf) | (refine AWP.ret ?_; conv => whnf) | (refine AWP.skip ?_; conv => whnf) | (refine AWP.exit ?_; conv => whnf) | (refine AWP.block ?_; conv => whnf) | (refine AWP.cond ?_; conv => whnf) | (refine AB.tt ?_; conv => whnf) | (refine AB.ff ?_; conv => whnf) | (refine AB.ofT (by assumption) ?_; conv => whnf) | (refine AB.ofF (by assumption) ?_; conv => whnf) | (refine AB.ofT (by decide) ?_; conv => whnf) | (refine AB.ofF (by decide) ?_; conv => whnf) | (refine ACall.upd (number_m _ h0) 1000 rfl rfl rfl ?_; conv => whnf) | (refine ACall.upd (number_m _ h1) 1000 rfl rfl rfl ?_; conv => whnf) | (refine ACall.upd (number_m _ h2) 1000 rfl rfl rfl ?_; conv => whnf) | (refine ACall.upd (node_m _ h0) 1000 rfl rfl rfl ?_; conv => whnf) | (refine ACall.upd (number_m _ g1) 1000 rfl rfl rfl ?_; conv => whnf) | (refine ACall.upd (node_m _ g1) 1000 rfl rfl rfl ?_; conv => whnf) | (exact trivial) | (refine And.intro rfl ?_; conv => whnf))
    · have hkk : k = 4 := by have := implKind_of hk hno (.inl (by simp only [decide_eq_true_eq, decide_eq_false_iff_not, List.length_map, Bool.not_eq_true', Bool.not_eq_false'] at *; omega)); omega
      subst hkk
      clear hno
      repeat' (first | (refine AWP.seq ?_) | (refine AWP.region av_ok ?_; conv => whnf) | (refine AWP.ret ?_; conv => whnf) | (refine AWP.skip ?_; conv => whnf) | (refine AWP.exit ?_; conv => whnf) | (refine AWP.block ?_; conv => whnf) | (refine AWP.cond ?_; conv => whnf) | (refine AB.tt ?_; conv => whnf) | (refine AB.ff ?_; conv => whnf) | (refine AB.ofT (by assumption) ?_; conv => whnf) | (refine AB.ofF (by assumption) ?_; conv => whnf) | (refine AB.ofT (by decide) ?_; conv => whnf) | (refine AB.ofF (by decide) ?_; conv => whnf) | (refine ACall.upd (number_m _ h0) 1000 rfl rfl rfl ?_; conv => whnf) | (refine ACall.upd (number_m _ h1) 1000 rfl rfl rfl ?_; conv => whnf) | (refine ACall.upd (number_m _ h2) 1000 rfl rfl rfl ?_; conv => whnf) | (refine ACall.upd (node_m _ h0) 1000 rfl rfl rfl ?_; conv => whnf) | (refine ACall.upd (number_m _ g1) 1000 rfl rfl rfl ?_; conv => whnf) | (refine ACall.upd (node_m _ g1) 1000 rfl rfl rfl ?_; conv => whnf) | (exact trivial) | (refine And.intro rfl ?_; conv => whnf))
theorem step_m6 (s : Sc) (hs : s.ok) (hkd : implKind s.cur = 6) : MCall av 109 [.one (.ref 1000 0 0 0)] [(1000, s.o)] [(1000, (stRead 6 s.next).s.o)] [1000] (.val (.agg [.d (dI 6), .d (dI (stRead 6 s.next).a), .d (dI (stRead 6 s.next).b), .d (dI (stRead 6 s.next).c), .nil])) := by
  have wm := word_m s hs
  have h0 := hs.next
  have h1 := h0.num
  have h2 := h1.num
  have g1 := h0.node
  refine mcall_of av_ok Tryd.func109 rfl Tryd.call109 Tryd.ntmps109 (congrArg Array.toList Tryd.results109) rfl fun S pv => ?_; conv => whnf
  repeat' (first | (refine AWP.seq ?_) | (refine AWP.region av_ok ?_; conv => whnf) | (refine AWP.ret ?_; conv => whnf) | (refine AWP.skip ?_; conv => whnf) | (refine AWP.exit ?_; conv => whnf) | (refine AWP.block ?_; conv => whnf) | (refine AWP.cond ?_; conv => whnf) | (refine AB.tt ?_; conv => whnf) | (refine AB.ff ?_; conv => whnf) | (refine AB.ofT (by assumption) ?_; conv => whnf) | (refine AB.ofF (by assumption) ?_; conv => whnf) | (refine ACall.upd wm 1000 rfl rfl rfl ?_; conv => whnf) | (exact trivial) | (refine And.intro rfl ?_; conv => whnf) | (refine AB.mk (fun h => ?_) (fun h => ?_) <;> (conv => whnf)) | (with_reducible_and_instances rfl) | (exact (rfl : AP.tup _ = AP.tup _)))
  refine AWP.loopS (fun k : Nat => k ≤ 11 ∧ ∀ j : Nat, k < j → j ≤ 11 → kindL j ≠ s.cur) [8, 9, 10, 11, 12, 13, 14, 15, 16, 17, 18, 19, 20, 21] (fun k => []) (fun k => [(9999, .frame (pinsOf [1000]) pv), (1000, s.next.o), (2, .cells 47 [.d (dI 0), .d (dI 0), .d (dI 0), .d (dI 0), .nil]), (4, .cells 47 [.d (dI (k : Int)), .d (dI 0), .d (dI 0), .d (dI 0), .nil])]) (fun k => k) 11 ⟨by omega, fun j h1 h2 => by omega⟩ ?_ (SubO.cons rfl (SubO.cons rfl (SubO.cons rfl (SubO.cons rfl SubO.nil)))) (fun k hR => ?_) <;> (conv => whnf)
  · repeat' (first | exact trivial | (refine And.intro rfl ?_; conv => whnf))
  · obtain ⟨hk, hno⟩ := hR
    repeat' (first | (refine AWP.seq ?_) | (refine AWP.region av_ok ?_; conv => whnf) | (refine AWP.ret ?_; conv => whnf) | (refine AWP.skip ?_; conv => whnf) | (refine AWP.exit ?_; conv => whnf) | (refine AWP.block ?_; conv => whnf) | (refine AWP.cond ?_; conv => whnf) | (refine AB.tt ?_; conv => whnf) | (refine AB.ff ?_; conv => whnf) | (refine AB.ofT (by assumption) ?_; conv => whnf) | (refine AB.ofF (by assumption) ?_; conv => whnf) | (refine And.intro rfl ?_; conv => whnf))
    refine AB.mk (fun h => ?_) (fun h => ?_) <;> (conv => whnf)
    · repeat' (first | (refine AWP.seq ?_) | (refine AWP.region av_ok ?_; conv => whnf) | (refine AWP.ret ?_; conv => whnf) | (refine AWP.skip ?_; conv => whnf) | (refine AWP.exit ?_; conv => whnf) | (refine AWP.block ?_; conv => whnf) | (refine AWP.cond ?_; conv => whnf) | (refine AB.tt ?_; conv => whnf) | (refine AB.ff ?_; conv => whnf) | (refine AB.ofT (by assumption) ?_; conv => whnf) | (refine AB.ofF (by assumption) ?_; conv => whnf) | (refine ACall.pure (istepWord_p (k : Int) (by simp only [decide_eq_true_eq, decide_eq_false_iff_not, List.length_map, Bool.not_eq_true', Bool.not_eq_false'] at *; omega) (by simp only [decide_eq_true_eq, decide_eq_false_iff_not, List.length_map, Bool.not_eq_true', Bool.not_eq_false'] at *; omega)) rfl ?_; conv => whnf) | (refine And.intro rfl ?_; conv => whnf))
      refine AB.mk (fun h2 => ?_) (fun h2 => ?_) <;> (conv => whnf)
      · have hk1 : 1 ≤ k := (by simp only [decide_eq_true_eq, decide_eq_false_iff_not, List.length_map, Bool.not_eq_true', Bool.not_eq_false'] at *; omega)
        have hne : kindL k ≠ s.cur := by rw [str_dec] at h2; simpa using h2
        repeat' (first | (refine AWP.seq ?_) | (refine AWP.region av_ok ?_; conv => whnf) | (refine AWP.ret ?_; conv => whnf) | (refine AWP.skip ?_; conv => whnf) | (refine AWP.exit ?_; conv => whnf) | (refine AWP.block ?_; conv => whnf) | (refine AWP.cond ?_; conv => whnf) | (refine AB.tt ?_; conv => whnf) | (refine AB.ff ?_; conv => whnf) | (refine AB.ofT (by assumption) ?_; conv => whnf) | (refine AB.ofF (by assumption) ?_; conv => whnf) | (refine AW.as ((k - 1 : Nat) : Int) (by rw [wrap_i64_of (by omega) (by omega)]; omega) ?_; conv => whnf) | (refine And.intro rfl ?_; conv => whnf))
        refine ANext.mk ⟨k - 1, ⟨by omega, fun j h1 h2 => ?_⟩, by omega, ?_, SubO.cons rfl (SubO.cons rfl (SubO.cons rfl (SubO.cons rfl SubO.nil)))⟩
        · by_cases hjk : j = k
          · subst hjk; exact hne
          · exact hno j (by omega) h2
        · (conv => whnf); repeat' (first | exact trivial | (refine ⟨rfl, ?_⟩; conv => whnf))
      · have heq : kindL k = s.cur := by rw [str_dec] at h2; simpa using h2
        have hkk : k = 6 := by have := implKind_of hk hno (.inr heq); omega
        subst hkk
        clear h h2 hno
        repeat' (first | (refine AWP.seq ?_) | (refine AWP.region av_ok ?_; conv => whnf) | (refine AWP.ret ?_; conv => whnf) | (refine AWP.skip ?_; conv => whnf) | (refine AWP.exit ?_; conv => whnf) | (refine AWP.block ?_; conv => whnf) | (refine AWP.cond ?_; conv => whnf) | (refine AB.tt ?_; conv => whnf) | (refine AB.ff ?_; conv => whnf) | (refine AB.ofT (by assumption) ?_; conv => whnf) | (refine AB.ofF (by assumption) ?_; conv => whnf) | (refine AB.ofT (by decide) ?_; conv => whnf) | (refine AB.ofF (by decide) ?_; conv => whnf) | (refine ACall.upd (number_m _ h0) 1000 rfl rfl rfl ?_; conv => whnf) | (refine ACall.upd (number_m _ h1) 1000 rfl rfl rfl ?_; conv => whnf) | (refine ACall.upd (number_m _ h2) 1000 rfl rfl rfl ?_; conv => whnf) | (refine ACall.upd (node_m _ h0) 1000 rfl rfl rfl ?_; conv => whnf) | (refine ACall.upd (number_m _ g1) 1000 rfl rfl rfl ?_; conv => whnf) | (refine ACall.upd (node_m _ g1) 1000 rfl rfl rfl ?_; conv => whnf) | (exact trivial) | (refine And.intro rfl ?_; conv => whnf))
    · have hkk : k = 6 := by have := implKind_of hk hno (.inl (by simp only [decide_eq_true_eq, decide_eq_false_iff_not, List.length_map, Bool.not_eq_true', Bool.not_eq_false'] at *; omega)); omega
      subst hkk
      clear hno
      repeat' (first | (refine AWP.seq ?_) | (refine AWP.region av_ok ?_; conv => whnf) | (refine AWP.ret ?_; conv => whnf) | (refine AWP.skip ?_; conv => whnf) | (refine AWP.exit ?_; conv => whnf) | (refine AWP.block ?_; conv => whnf) | (refine AWP.cond ?_; conv => whnf) | (refine AB.tt ?_; conv => whnf) | (refine AB.ff ?_; conv => whnf) | (refine AB.ofT (by assumption) ?_; conv => whnf) | (refine AB.ofF (by assumption) ?_; conv => whnf) | (refine AB.ofT (by decide) ?_; conv => whnf) | (refine AB.ofF (by decide) ?_; conv => whnf) | (refine ACall.upd (number_m _ h0) 1000 rfl rfl rfl ?_; conv => whnf) | (refine ACall.upd (number_m _ h1) 1000 rfl rfl rfl ?_; conv => whnf) | (refine ACall.upd (number_m _ h2) 1000 rfl rfl rfl ?_; conv => whnf) | (refine ACall.upd (node_m _ h0) 1000 rfl rfl rfl ?_; conv => whnf) | (refine ACall.upd (number_m _ g1) 1000 rfl rfl rfl ?_; conv => whnf) | (refine ACall.upd (node_m _ g1) 1000 rfl rfl rfl ?_; conv => whnf) | (exact trivial) | (refine And.intro rfl ?_; conv => whnf))
theorem step_m7 (s : Sc) (hs : s.ok) (hkd : implKind s.cur = 7) : MCall av 109 [.one (.ref 1000 0 0 0)] [(1000, s.o)] [(1000, (stRead 7 s.next).s.o)] [1000] (.val (.agg [.d (dI 7), .d (dI (stRead 7 s.next).a), .d (dI (stRead 7 s.next).b), .d (dI (stRead 7 s.next).c), .nil])) := by
  have wm := word_m s hs
  have h0 := hs.next
  have h1 := h0.num
  have h2 := h1.num
  have g1 := h0.node
  refine mcall_of av_ok Tryd.func109 rfl Tryd.call109 Tryd.ntmps109 (congrArg Array.toList Tryd.results109) rfl fun S pv => ?_; conv => whnf
  repeat' (first | (refine AWP.seq ?_) | (refine AWP.region av_ok ?_; conv => whnf) | (refine AWP.ret ?_; conv => whnf) | (refine AWP.skip ?_; conv => whnf) | (refine AWP.exit ?_; conv => whnf) | (refine AWP.block ?_; conv => whnf) | (refine AWP.cond ?_; conv => whnf) | (refine AB.tt ?_; conv => whnf) | (refine AB.ff ?_; conv => whnf) | (refine AB.ofT (by assumption) ?_; conv => whnf) | (refine AB.ofF (by assumption) ?_; conv => whnf) | (refine ACall.upd wm 1000 rfl rfl rfl ?_; conv => whnf) | (exact trivial) | (refine And.intro rfl ?_; conv => whnf) | (refine AB.mk (fun h => ?_) (fun h => ?_) <;> (conv => whnf)) | (with_reducible_and_instances rfl) | (exact (rfl : AP.tup _ = AP.tup _)))
  refine AWP.loopS (fun k : Nat => k ≤ 11 ∧ ∀ j : Nat, k < j → j ≤ 11 → kindL j ≠ s.cur) [8, 9, 10, 11, 12, 13, 14, 15, 16, 17, 18, 19, 20, 21] (fun k => []) (fun k => [(9999, .frame (pinsOf [1000]) pv), (1000, s.next.o), (2, .cells 47 [.d (dI 0), .d (dI 0), .d (dI 0), .d (dI 0), .nil]), (4, .cells 47 [.d (dI (k : Int)), .d (dI 0), .d (dI 0), .d (dI 0), .nil])]) (fun k => k) 11 ⟨by omega, fun j h1 h2 => by omega⟩ ?_ (SubO.cons rfl (SubO.cons rfl (SubO.cons rfl (SubO.cons rfl SubO.nil)))) (fun k hR => ?_) <;> (conv => whnf)
  · repeat' (first | exact trivial | (refine And.intro rfl ?_; conv => whnf))
  · obtain ⟨hk, hno⟩ := hR
    repeat' (first | (refine AWP.seq ?_) | (refine AWP.region av_ok ?_; conv => whnf) | (refine AWP.ret ?_; conv => whnf) | (refine AWP.skip ?_; conv => whnf) | (refine AWP.exit ?_; conv => whnf) | (refine AWP.block ?_; conv => whnf) | (refine AWP.cond ?_; conv => whnf) | (refine AB.tt ?_; conv => whnf) | (refine AB.ff ?_; conv => whnf) | (refine AB.ofT (by assumption) ?_; conv => whnf) | (refine AB.ofF (by assumption) ?_; conv => whnf) | (refine And.intro rfl ?_; conv => whnf))
    refine AB.mk (fun h => ?_) (fun h => ?_) <;> (conv => whnf)
    · repeat' (first | (refine AWP.seq ?_) | (refine AWP.region av_ok ?_; conv => whnf) | (refine AWP.ret ?_; conv => whnf) | (refine AWP.skip ?_; conv => whnf) | (refine AWP.exit ?_; conv => whnf) | (refine AWP.block ?_; conv => whnf) | (refine AWP.cond ?_; conv => whnf) | (refine AB.tt ?_; conv => whnf) | (refine AB.ff ?_; conv => whnf) | (refine AB.ofT (by assumption) ?_; conv => whnf) | (refine AB.ofF (by assumption) ?_; conv => whnf) | (refine ACall.pure (istepWord_p (k : Int) (by simp only [decide_eq_true_eq, decide_eq_false_iff_not, List.length_map, Bool.not_eq_true', Bool.not_eq_false'] at *; omega) (by simp only [decide_eq_true_eq, decide_eq_false_iff_not, List.length_map, Bool.not_eq_true', Bool.not_eq_false'] at *; omega)) rfl ?_; conv => whnf) | (refine And.intro rfl ?_; conv => whnf))
      refine AB.mk (fun h2 => ?_) (fun h2 => ?_) <;> (conv => whnf)
      · have hk1 : 1 ≤ k := (by simp only [decide_eq_true_eq, decide_eq_false_iff_not, List.length_map, Bool.not_eq_true', Bool.not_eq_false'] at *; omega)
        have hne : kindL k ≠ s.cur := by rw [str_dec] at h2; simpa using h2
        repeat' (first | (refine AWP.seq ?_) | (refine AWP.region av_ok ?_; conv => whnf) | (refine AWP.ret ?_; conv => whnf) | (refine AWP.skip ?_; conv => whnf) | (refine AWP.exit ?_; conv => whnf) | (refine AWP.block ?_; conv => whnf) | (refine AWP.cond ?_; conv => whnf) | (refine AB.tt ?_; conv => whnf) | (refine AB.ff ?_; conv => whnf) | (refine AB.ofT (by assumption) ?_; conv => whnf) | (refine AB.ofF (by assumption) ?_; conv => whnf) | (refine AW.as ((k - 1 : Nat) : Int) (by rw [wrap_i64_of (by omega) (by omega)]; omega) ?_; conv => whnf) | (refine And.intro rfl ?_; conv => whnf))
        refine ANext.mk ⟨k - 1, ⟨by omega, fun j h1 h2 => ?_⟩, by omega, ?_, SubO.cons rfl (SubO.cons rfl (SubO.cons rfl (SubO.cons rfl SubO.nil)))⟩
        · by_cases hjk : j = k
          · subst hjk; exact hne
          · exact hno j (by omega) h2
        · (conv => whnf); repeat' (first | exact trivial | (refine ⟨rfl, ?_⟩; conv => whnf))
      · have heq : kindL k = s.cur := by rw [str_dec] at h2; simpa using h2
        have hkk : k = 7 := by have := implKind_of hk hno (.inr heq); omega
        subst hkk
        clear h h2 hno
        repeat' (first | (refine AWP.seq ?_) | (refine AWP.region av_ok ?_; conv => whnf) | (refine AWP.ret ?_; conv => whnf) | (refine AWP.skip ?_; conv => whnf) | (refine AWP.exit ?_; conv => whnf) | (refine AWP.block ?_; conv => whnf) | (refine AWP.cond ?_; conv => whnf) | (refine AB.tt ?_; conv => whnf) | (refine AB.ff ?_; conv => whnf) | (refine AB.ofT (by assumption) ?_; conv => whnf) | (refine AB.ofF (by assumption) ?_; conv => whnf) | (refine AB.ofT (by decide) ?_; conv => whnf) | (refine AB.ofF (by decide) ?_; conv => whnf) | (refine ACall.upd (number_m _ h0) 1000 rfl rfl rfl ?_; conv => whnf) | (refine ACall.upd (number_m _ h1) 1000 rfl rfl rfl ?_; conv => whnf) | (refine ACall.upd (number_m _ h2) 1000 rfl rfl rfl ?_; conv => whnf) | (refine ACall.upd (node_m _ h0) 1000 rfl rfl rfl ?_; conv => whnf) | (refine ACall.upd (number_m _ g1) 1000 rfl rfl rfl ?_; conv => whnf) | (refine ACall.upd (node_m _ g1) 1000 rfl rfl rfl ?_; conv => whnf) | (exact trivial) | (refine And.intro rfl ?_; conv => whnf))
    · have hkk : k = 7 := by have := implKind_of hk hno (.inl (by simp only [decide_eq_true_eq, decide_eq_false_iff_not, List.length_map, Bool.not_eq_true', Bool.not_eq_false'] at *; omega)); omega
      subst hkk
      clear hno
      repeat' (first | (refine AWP.seq ?_) | (refine AWP.region av_ok ?_; conv => whnf) | (refine AWP.ret ?_; conv => whnf) | (refine AWP.skip ?_; conv => whnf) | (refine AWP.exit ?_; conv => whnf) | (refine AWP.block ?_; conv => whnf) | (refine AWP.cond ?_; conv => whnf) | (refine AB.tt ?_; conv => whnf) | (refine AB.ff ?_; conv => whnf) | (refine AB.ofT (by assumption) ?_; conv => whnf) | (refine AB.ofF (by assumption) ?_; conv => whnf) | (refine AB.ofT (by decide) ?_; conv => whnf) | (refine AB.ofF (by decide) ?_; conv => whnf) | (refine ACall.upd (number_m _ h0) 1000 rfl rfl rfl ?_; conv => whnf) | (refine ACall.upd (number_m _ h1) 1000 rfl rfl rfl ?_; conv => whnf) | (refine ACall.upd (number_m _ h2) 1000 rfl rfl rfl ?_; conv => whnf) | (refine ACall.upd (node_m _ h0) 1000 rfl rfl rfl ?_; conv => whnf) | (refine ACall.upd (number_m _ g1) 1000 rfl rfl rfl ?_; conv => whnf) | (refine ACall.upd (node_m _ g1) 1000 rfl rfl rfl ?_; conv => whnf) | (exact trivial) | (refine And.intro rfl ?_; conv => whnf))
theorem step_m8 (s : Sc) (hs : s.ok) (hkd : implKind s.cur = 8) : MCall av 109 [.one (.ref 1000 0 0 0)] [(1000, s.o)] [(1000, (stRead 8 s.next).s.o)] [1000] (.val (.agg [.d (dI 8), .d (dI (stRead 8 s.next).a), .d (dI (stRead 8 s.next).b), .d (dI (stRead 8 s.next).c), .nil])) := by
  have wm := word_m s hs
  have h0 := hs.next
  have h1 := h0.num
  have h2 := h1.num
  have g1 := h0.node
  refine mcall_of av_ok Tryd.func109 rfl Tryd.call109 Tryd.ntmps109 (congrArg Array.toList Tryd.results109) rfl fun S pv => ?_; conv => whnf
  repeat' (first | (refine AWP.seq ?_) | (refine AWP.region av_ok ?_; conv => whnf) | (refine AWP.ret ?_; conv => whnf) | (refine AWP.skip ?_; conv => whnf) | (refine AWP.exit ?_; conv => whnf) | (refine AWP.block ?_; conv => whnf) | (refine AWP.cond ?_; conv => whnf) | (refine AB.tt ?_; conv => whnf) | (refine AB.ff ?_; conv => whnf) | (refine AB.ofT (by assumption) ?_; conv => whnf) | (refine AB.ofF (by assumption) ?_; conv => whnf) | (refine ACall.upd wm 1000 rfl rfl rfl ?_; conv => whnf) | (exact trivial) | (refine And.intro rfl ?_; conv => whnf) | (refine AB.mk (fun h => ?_) (fun h => ?_) <;> (conv => whnf)) | (with_reducible_and_instances rfl) | (exact (rfl : AP.tup _ = AP.tup _)))
  refine AWP.loopS (fun k : Nat => k ≤ 11 ∧ ∀ j : Nat, k < j → j ≤ 11 → kindL j ≠ s.cur) [8, 9, 10, 11, 12, 13, 14, 15, 16, 17, 18, 19, 20, 21] (fun k => []) (fun k => [(9999, .frame (pinsOf [1000]) pv), (1000, s.next.o), (2, .cells 47 [.d (dI 0), .d (dI 0), .d (dI 0), .d (dI 0), .nil]), (4, .cells 47 [.d (dI (k : Int)), .d (dI 0), .d (dI 0), .d (dI 0), .nil])]) (fun k => k) 11 ⟨by omega, fun j h1 h2 => by omega⟩ ?_ (SubO.cons rfl (SubO.cons rfl (SubO.cons rfl (SubO.cons rfl SubO.nil)))) (fun k hR => ?_) <;> (conv => whnf)
  · repeat' (first | exact trivial | (refine And.intro rfl ?_; conv => whnf))
  · obtain ⟨hk, hno⟩ := hR
    repeat' (first | (refine AWP.seq ?_) | (refine AWP.region av_ok ?_; conv => whnf) | (refine AWP.ret ?_; conv => whnf) | (refine AWP.skip ?_; conv => whnf) | (refine AWP.exit ?_; conv => whnf) | (refine AWP.block ?_; conv => whnf) | (refine AWP.cond ?_; conv => whnf) | (refine AB.tt ?_; conv => whnf) | (refine AB.ff ?_; conv => whnf) | (refine AB.ofT (by assumption) ?_; conv => whnf) | (refine AB.ofF (by assumption) ?_; conv => whnf) | (refine And.intro rfl ?_; conv => whnf))
    refine AB.mk (fun h => ?_) (fun h => ?_) <;> (conv => whnf)
    · repeat' (first | (refine AWP.seq ?_) | (refine AWP.region av_ok ?_; conv => whnf) | (refine AWP.ret ?_; conv => whnf) | (refine AWP.skip ?_; conv => whnf) | (refine AWP.exit ?_; conv => whnf) | (refine AWP.block ?_; conv => whnf) | (refine AWP.cond ?_; conv => whnf) | (refine AB.tt ?_; conv => whnf) | (refine AB.ff ?_; conv => whnf) | (refine AB.ofT (by assumption) ?_; conv => whnf) | (refine AB.ofF (by assumption) ?_; conv => whnf) | (refine ACall.pure (istepWord_p (k : Int) (by simp only [decide_eq_true_eq, decide_eq_false_iff_not, List.length_map, Bool.not_eq_true', Bool.not_eq_false'] at *; omega) (by simp only [decide_eq_true_eq, decide_eq_false_iff_not, List.length_map, Bool.not_eq_true', Bool.not_eq_false'] at *; omega)) rfl ?_; conv => whnf) | (refine And.intro rfl ?_; conv => whnf))
      refine AB.mk (fun h2 => ?_) (fun h2 => ?_) <;> (conv => whnf)
      · have hk1 : 1 ≤ k := (by simp only [decide_eq_true_eq, decide_eq_false_iff_not, List.length_map, Bool.not_eq_true', Bool.not_eq_false'] at *; omega)
        have hne : kindL k ≠ s.cur := by rw [str_dec] at h2; simpa using h2
        repeat' (first | (refine AWP.seq ?_) | (refine AWP.region av_ok ?_; conv => whnf) | (refine AWP.ret ?_; conv => whnf) | (refine AWP.skip ?_; conv => whnf) | (refine AWP.exit ?_; conv => whnf) | (refine AWP.block ?_; conv => whnf) | (refine AWP.cond ?_; conv => whnf) | (refine AB.tt ?_; conv => whnf) | (refine AB.ff ?_; conv => whnf) | (refine AB.ofT (by assumption) ?_; conv => whnf) | (refine AB.ofF (by assumption) ?_; conv => whnf) | (refine AW.as ((k - 1 : Nat) : Int) (by rw [wrap_i64_of (by omega) (by omega)]; omega) ?_; conv => whnf) | (refine And.intro rfl ?_; conv => whnf))
        refine ANext.mk ⟨k - 1, ⟨by omega, fun j h1 h2 => ?_⟩, by omega, ?_, SubO.cons rfl (SubO.cons rfl (SubO.cons rfl (SubO.cons rfl SubO.nil)))⟩
        · by_cases hjk : j = k
          · subst hjk; exact hne
          · exact hno j (by omega) h2
        · (conv => whnf); repeat' (first | exact trivial | (refine ⟨rfl, ?_⟩; conv => whnf))
      · have heq : kindL k = s.cur := by rw [str_dec] at h2; simpa using h2
        have hkk : k = 8 := by have := implKind_of hk hno (.inr heq); omega
        subst hkk
        clear h h2 hno
        repeat' (first | (refine AWP.seq ?_) | (refine AWP.region av_ok ?_; conv => whnf) | (refine AWP.ret ?_; conv => whnf) | (refine AWP.skip ?_; conv => whnf) | (refine AWP.exit ?_; conv => whnf) | (refine AWP.block ?_; conv => whnf) | (refine AWP.cond ?_; conv => whnf) | (refine AB.tt ?_; conv => whnf) | (refine AB.ff ?_; conv => whnf) | (refine AB.ofT (by assumption) ?_; conv => whnf) | (refine AB.ofF (by assumption) ?_; conv => whnf) | (refine AB.ofT (by decide) ?_; conv => whnf) | (refine AB.ofF (by decide) ?_; conv => whnf) | (refine ACall.upd (number_m _ h0) 1000 rfl rfl rfl ?_; conv => whnf) | (refine ACall.upd (number_m _ h1) 1000 rfl rfl rfl ?_; conv => whnf) | (refine ACall.upd (number_m _ h2) 1000 rfl rfl rfl ?_; conv => whnf) | (refine ACall.upd (node_m _ h0) 1000 rfl rfl rfl ?_; conv => whnf) | (refine ACall.upd (number_m _ g1) 1000 rfl rfl rfl ?_; conv => whnf) | (refine ACall.upd (node_m _ g1) 1000 rfl rfl rfl ?_; conv => whnf) | (exact trivial) | (refine And.intro rfl ?_; conv => whnf))
    · have hkk : k = 8 := by have := implKind_of hk hno (.inl (by simp only [decide_eq_true_eq, decide_eq_false_iff_not, List.length_map, Bool.not_eq_true', Bool.not_eq_false'] at *; omega)); omega
      subst hkk
      clear hno
      repeat' (first | (refine AWP.seq ?_) | (refine AWP.region av_ok ?_; conv => whnf) | (refine AWP.ret ?_; conv => whnf) | (refine AWP.skip ?_; conv => whnf) | (refine AWP.exit ?_; conv => whnf) | (refine AWP.block ?_; conv => whnf) | (refine AWP.cond ?_; conv => whnf) | (refine AB.tt ?_; conv => whnf) | (refine AB.ff ?_; conv => whnf) | (refine AB.ofT (by assumption) ?_; conv => whnf) | (refine AB.ofF (by assumption) ?_; conv => whnf) | (refine AB.ofT (by decide) ?_; conv => whnf) | (refine AB.ofF (by decide) ?_; conv => whnf) | (refine ACall.upd (number_m _ h0) 1000 rfl rfl rfl ?_; conv => whnf) | (refine ACall.upd (number_m _ h1) 1000 rfl rfl rfl ?_; conv => whnf) | (refine ACall.upd (number_m _ h2) 1000 rfl rfl rfl ?_; conv => whnf) | (refine ACall.upd (node_m _ h0) 1000 rfl rfl rfl ?_; conv => whnf) | (refine ACall.upd (number_m _ g1) 1000 rfl rfl rfl ?_; conv => whnf) | (refine ACall.upd (node_m _ g1) 1000 rfl rfl rfl ?_; conv => whnf) | (exact trivial) | (refine And.intro rfl ?_; conv => whnf))
theorem step_m9 (s : Sc) (hs : s.ok) (hkd : implKind s.cur = 9) : MCall av 109 [.one (.ref 1000 0 0 0)] [(1000, s.o)] [(1000, (stRead 9 s.next).s.o)] [1000] (.val (.agg [.d (dI 9), .d (dI (stRead 9 s.next).a), .d (dI (stRead 9 s.next).b), .d (dI (stRead 9 s.next).c), .nil])) := by
  have wm := word_m s hs
  have h0 := hs.next
  have h1 := h0.num
  have h2 := h1.num
  have g1 := h0.node
  refine mcall_of av_ok Tryd.func109 rfl Tryd.call109 Tryd.ntmps109 (congrArg Array.toList Tryd.results109) rfl fun S pv => ?_; conv => whnf
  repeat' (first | (refine AWP.seq ?_) | (refine AWP.region av_ok ?_; conv => whnf) | (refine AWP.ret ?_; conv => whnf) | (refine AWP.skip ?_; conv => whnf) | (refine AWP.exit ?_; conv => whnf) | (refine AWP.block ?_; conv => whnf) | (refine AWP.cond ?_; conv => whnf) | (refine AB.tt ?_; conv => whnf) | (refine AB.ff ?_; conv => whnf) | (refine AB.ofT (by assumption) ?_; conv => whnf) | (refine AB.ofF (by assumption) ?_; conv => whnf) | (refine ACall.upd wm 1000 rfl rfl rfl ?_; conv => whnf) | (exact trivial) | (refine And.intro rfl ?_; conv => whnf) | (refine AB.mk (fun h => ?_) (fun h => ?_) <;> (conv => whnf)) | (with_reducible_and_instances rfl) | (exact (rfl : AP.tup _ = AP.tup _)))
  refine AWP.loopS (fun k : Nat => k ≤ 11 ∧ ∀ j : Nat, k < j → j ≤ 11 → kindL j ≠ s.cur) [8, 9, 10, 11, 12, 13, 14, 15, 16, 17, 18, 19, 20, 21] (fun k => []) (fun k => [(9999, .frame (pinsOf [1000]) pv), (1000, s.next.o), (2, .cells 47 [.d (dI 0), .d (dI 0), .d (dI 0), .d (dI 0), .nil]), (4, .cells 47 [.d (dI (k : Int)), .d (dI 0), .d (dI 0), .d (dI 0), .nil])]) (fun k => k) 11 ⟨by omega, fun j h1 h2 => by omega⟩ ?_ (SubO.cons rfl (SubO.cons rfl (SubO.cons rfl (SubO.cons rfl SubO.nil)))) (fun k hR => ?_) <;> (conv => whnf)
  · repeat' (first | exact trivial | (refine And.intro rfl ?_; conv => whnf))
  · obtain ⟨hk, hno⟩ := hR
    repeat' (first | (refine AWP.seq ?_) | (refine AWP.region av_ok ?_; conv => whnf) | (refine AWP.ret ?_; conv => whnf) | (refine AWP.skip ?_; conv => whnf) | (refine AWP.exit ?_; conv => whnf) | (refine AWP.block ?_; conv => whnf) | (refine AWP.cond ?_; conv => whnf) | (refine AB.tt ?_; conv => whnf) | (refine AB.ff ?_; conv => whnf) | (refine AB.ofT (by assumption) ?_; conv => whnf) | (refine AB.ofF (by assumption) ?_; conv => whnf) | (refine And.intro rfl ?_; conv => whnf))
    refine AB.mk (fun h => ?_) (fun h => ?_) <;> (conv => whnf)
    · repeat' (first | (refine AWP.seq ?_) | (refine AWP.region av_ok ?_; conv => whnf) | (refine AWP.ret ?_; conv => whnf) | (refine AWP.skip ?_; conv => whnf) | (refine AWP.exit ?_; conv => whnf) | (refine AWP.block ?_; conv => whnf) | (refine AWP.cond ?_; conv => whnf) | (refine AB.tt ?_; conv => whnf) | (refine AB.ff ?_; conv => whnf) | (refine AB.ofT (by assumption) ?_; conv => whnf) | (refine AB.ofF (by assumption) ?_; conv => whnf) | (refine ACall.pure (istepWord_p (k : Int) (by simp only [decide_eq_true_eq, decide_eq_false_iff_not, List.length_map, Bool.not_eq_true', Bool.not_eq_false'] at *; omega) (by simp only [decide_eq_true_eq, decide_eq_false_iff_not, List.length_map, Bool.not_eq_true', Bool.not_eq_false'] at *; omega)) rfl ?_; conv => whnf) | (refine And.intro rfl ?_; conv => whnf))
      refine AB.mk (fun h2 => ?_) (fun h2 => ?_) <;> (conv => whnf)
      · have hk1 : 1 ≤ k := (by simp only [decide_eq_true_eq, decide_eq_false_iff_not, List.length_map, Bool.not_eq_true', Bool.not_eq_false'] at *; omega)
        have hne : kindL k ≠ s.cur := by rw [str_dec] at h2; simpa using h2
        repeat' (first | (refine AWP.seq ?_) | (refine AWP.region av_ok ?_; conv => whnf) | (refine AWP.ret ?_; conv => whnf) | (refine AWP.skip ?_; conv => whnf) | (refine AWP.exit ?_; conv => whnf) | (refine AWP.block ?_; conv => whnf) | (refine AWP.cond ?_; conv => whnf) | (refine AB.tt ?_; conv => whnf) | (refine AB.ff ?_; conv => whnf) | (refine AB.ofT (by assumption) ?_; conv => whnf) | (refine AB.ofF (by assumption) ?_; conv => whnf) | (refine AW.as ((k - 1 : Nat) : Int) (by rw [wrap_i64_of (by omega) (by omega)]; omega) ?_; conv => whnf) | (refine And.intro rfl ?_; conv => whnf))
        refine ANext.mk ⟨k - 1, ⟨by omega, fun j h1 h2 => ?_⟩, by omega, ?_, SubO.cons rfl (SubO.cons rfl (SubO.cons rfl (SubO.cons rfl SubO.nil)))⟩
        · by_cases hjk : j = k
          · subst hjk; exact hne
          · exact hno j (by omega) h2
        · (conv => whnf); repeat' (first | exact trivial | (refine ⟨rfl, ?_⟩; conv => whnf))
      · have heq : kindL k = s.cur := by rw [str_dec] at h2; simpa using h2
        have hkk : k = 9 := by have := implKind_of hk hno (.inr heq); omega
        subst hkk
        clear h h2 hno
        repeat' (first | (refine AWP.seq ?_) | (refine AWP.region av_ok ?_; conv => whnf) | (refine AWP.ret ?_; conv => whnf) | (refine AWP.skip ?_; conv => whnf) | (refine AWP.exit ?_; conv => whnf) | (refine AWP.block ?_; conv => whnf) | (refine AWP.cond ?_; conv => whnf) | (refine AB.tt ?_; conv => whnf) | (refine AB.ff ?_; conv => whnf) | (refine AB.ofT (by assumption) ?_; conv => whnf) | (refine AB.ofF (by assumption) ?_; conv => whnf) | (refine AB.ofT (by decide) ?_; conv => whnf) | (refine AB.ofF (by decide) ?_; conv => whnf) | (refine ACall.upd (number_m _ h0) 1000 rfl rfl rfl ?_; conv => whnf) | (refine ACall.upd (number_m _ h1) 1000 rfl rfl rfl ?_; conv => whnf) | (refine ACall.upd (number_m _ h2) 1000 rfl rfl rfl ?_; conv => whnf) | (refine ACall.upd (node_m _ h0) 1000 rfl rfl rfl ?_; conv => whnf) | (refine ACall.upd (number_m _ g1) 1000 rfl rfl rfl ?_; conv => whnf) | (refine ACall.upd (node_m _ g1) 1000 rfl rfl rfl ?_; conv => whnf) | (exact trivial) | (refine And.intro rfl ?_; conv => whnf))
    · have hkk : k = 9 := by have := implKind_of hk hno (.inl (by simp only [decide_eq_true_eq, decide_eq_false_iff_not, List.length_map, Bool.not_eq_true', Bool.not_eq_false'] at *; omega)); omega
      subst hkk
      clear hno
      repeat' (first | (refine AWP.seq ?_) | (refine AWP.region av_ok ?_; conv => whnf) | (refine AWP.ret ?_; conv => whnf) | (refine AWP.skip ?_; conv => whnf) | (refine AWP.exit ?_; conv => whnf) | (refine AWP.block ?_; conv => whnf) | (refine AWP.cond ?_; conv => whnf) | (refine AB.tt ?_; conv => whnf) | (refine AB.ff ?_; conv => whnf) | (refine AB.ofT (by assumption) ?_; conv => whnf) | (refine AB.ofF (by assumption) ?_; conv => whnf) | (refine AB.ofT (by decide) ?_; conv => whnf) | (refine AB.ofF (by decide) ?_; conv => whnf) | (refine ACall.upd (number_m _ h0) 1000 rfl rfl rfl ?_; conv => whnf) | (refine ACall.upd (number_m _ h1) 1000 rfl rfl rfl ?_; conv => whnf) | (refine ACall.upd (number_m _ h2) 1000 rfl rfl rfl ?_; conv => whnf) | (refine ACall.upd (node_m _ h0) 1000 rfl rfl rfl ?_; conv => whnf) | (refine ACall.upd (number_m _ g1) 1000 rfl rfl rfl ?_; conv => whnf) | (refine ACall.upd (node_m _ g1) 1000 rfl rfl rfl ?_; conv => whnf) | (exact trivial) | (refine And.intro rfl ?_; conv => whnf))
theorem step_m10 (s : Sc) (hs : s.ok) (hkd : implKind s.cur = 10) : MCall av 109 [.one (.ref 1000 0 0 0)] [(1000, s.o)] [(1000, (stRead 10 s.next).s.o)] [1000] (.val (.agg [.d (dI 10), .d (dI (stRead 10 s.next).a), .d (dI (stRead 10 s.next).b), .d (dI (stRead 10 s.next).c), .nil])) := by
  have wm := word_m s hs
  have h0 := hs.next
  have h1 := h0.num
  have h2 := h1.num
  have g1 := h0.node
  refine mcall_of av_ok Tryd.func109 rfl Tryd.call109 Tryd.ntmps109 (congrArg Array.toList Tryd.results109) rfl fun S pv => ?_; conv => whnf
  repeat' (first | (refine AWP.seq ?_) | (refine AWP.region av_ok ?_; conv => whnf) | (refine AWP.ret ?_; conv => whnf) | (refine AWP.skip ?_; conv => whnf) | (refine AWP.exit ?_; conv => whnf) | (refine AWP.block ?_; conv => whnf) | (refine AWP.cond ?_; conv => whnf) | (refine AB.tt ?_; conv => whnf) | (refine AB.ff ?_; conv => whnf) | (refine AB.ofT (by assumption) ?_; conv => whnf) | (refine AB.ofF (by assumption) ?_; conv => whnf) | (refine ACall.upd wm 1000 rfl rfl rfl ?_; conv => whnf) | (exact trivial) | (refine And.intro rfl ?_; conv => whnf) | (refine AB.mk (fun h => ?_) (fun h => ?_) <;> (conv => whnf)) | (with_reducible_and_instances rfl) | (exact (rfl : AP.tup _ = AP.tup _)))
  refine AWP.loopS (fun k : Nat => k ≤ 11 ∧ ∀ j : Nat, k < j → j ≤ 11 → kindL j ≠ s.cur) [8, 9, 10, 11, 12, 13, 14, 15, 16, 17, 18, 19, 20, 21] (fun k => []) (fun k => [(9999, .frame (pinsOf [1000]) pv), (1000, s.next.o), (2, .cells 47 [.d (dI 0), .d (dI 0), .d (dI 0), .d (dI 0), .nil]), (4, .cells 47 [.d (dI (k : Int)), .d (dI 0), .d (dI 0), .d (dI 0), .nil])]) (fun k => k) 11 ⟨by omega, fun j h1 h2 => by omega⟩ ?_ (SubO.cons rfl (SubO.cons rfl (SubO.cons rfl (SubO.cons rfl SubO.nil)))) (fun k hR => ?_) <;> (conv => whnf)
  · repeat' (first | exact trivial | (refine And.intro rfl ?_; conv => whnf))
  · obtain ⟨hk, hno⟩ := hR
    repeat' (first | (refine AWP.seq ?_) | (refine AWP.region av_ok ?_; conv => whnf) | (refine AWP.ret ?_; conv => whnf) | (refine AWP.skip ?_; conv => whnf) | (refine AWP.exit ?_; conv => whnf) | (refine AWP.block ?_; conv => whnf) | (refine AWP.cond ?_; conv => whnf) | (refine AB.tt ?_; conv => whnf) | (refine AB.ff ?_; conv => whnf) | (refine AB.ofT (by assumption) ?_; conv => whnf) | (refine AB.ofF (by assumption) ?_; conv => whnf) | (refine And.intro rfl ?_; conv => whnf))
    refine AB.mk (fun h => ?_) (fun h => ?_) <;> (conv => whnf)
    · repeat' (first | (refine AWP.seq ?_) | (refine AWP.region av_ok ?_; conv => whnf) | (refine AWP.ret ?_; conv => whnf) | (refine AWP.skip ?_; conv => whnf) | (refine AWP.exit ?_; conv => whnf) | (refine AWP.block ?_; conv => whnf) | (refine AWP.cond ?_; conv => whnf) | (refine AB.tt ?_; conv => whnf) | (refine AB.ff ?_; conv => whnf) | (refine AB.ofT (by assumption) ?_; conv => whnf) | (refine AB.ofF (by assumption) ?_; conv => whnf) | (refine ACall.pure (istepWord_p (k : Int) (by simp only [decide_eq_true_eq, decide_eq_false_iff_not, List.length_map, Bool.not_eq_true', Bool.not_eq_false'] at *; omega) (by simp only [decide_eq_true_eq, decide_eq_false_iff_not, List.length_map, Bool.not_eq_true', Bool.not_eq_false'] at *; omega)) rfl ?_; conv => whnf) | (refine And.intro rfl ?_; conv => whnf))
      refine AB.mk (fun h2 => ?_) (fun h2 => ?_) <;> (conv => whnf)
      · have hk1 : 1 ≤ k := (by simp only [decide_eq_true_eq, decide_eq_false_iff_not, List.length_map, Bool.not_eq_true', Bool.not_eq_false'] at *; omega)
        have hne : kindL k ≠ s.cur := by rw [str_dec] at h2; simpa using h2
        repeat' (first | (refine AWP.seq ?_) | (refine AWP.region av_ok ?_; conv => whnf) | (refine AWP.ret ?_; conv => whnf) | (refine AWP.skip ?_; conv => whnf) | (refine AWP.exit ?_; conv => whnf) | (refine AWP.block ?_; conv => whnf) | (refine AWP.cond ?_; conv => whnf) | (refine AB.tt ?_; conv => whnf) | (refine AB.ff ?_; conv => whnf) | (refine AB.ofT (by assumption) ?_; conv => whnf) | (refine AB.ofF (by assumption) ?_; conv => whnf) | (refine AW.as ((k - 1 : Nat) : Int) (by rw [wrap_i64_of (by omega) (by omega)]; omega) ?_; conv => whnf) | (refine And.intro rfl ?_; conv => whnf))
        refine ANext.mk ⟨k - 1, ⟨by omega, fun j h1 h2 => ?_⟩, by omega, ?_, SubO.cons rfl (SubO.cons rfl (SubO.cons rfl (SubO.cons rfl SubO.nil)))⟩
        · by_cases hjk : j = k
          · subst hjk; exact hne
          · exact hno j (by omega) h2
        · (conv => whnf); repeat' (first | exact trivial | (refine ⟨rfl, ?_⟩; conv => whnf))
      · have heq : kindL k = s.cur := by rw [str_dec] at h2; simpa using h2
        have hkk : k = 10 := by have := implKind_of hk hno (.inr heq); omega
        subst hkk
        clear h h2 hno
        repeat' (first | (refine AWP.seq ?_) | (refine AWP.region av_ok ?_; conv => whnf) | (refine AWP.ret ?_; conv => whnf) | (refine AWP.skip ?_; conv => whnf) | (refine AWP.exit ?_; conv => whnf) | (refine AWP.block ?_; conv => whnf) | (refine AWP.cond ?_; conv => whnf) | (refine AB.tt ?_; conv => whnf) | (refine AB.ff ?_; conv => whnf) | (refine AB.ofT (by assumption) ?_; conv => whnf) | (refine AB.ofF (by assumption) ?_; conv => whnf) | (refine AB.ofT (by decide) ?_; conv => whnf) | (refine AB.ofF (by decide) ?_; conv => whnf) | (refine ACall.upd (number_m _ h0) 1000 rfl rfl rfl ?_; conv => whnf) | (refine ACall.upd (number_m _ h1) 1000 rfl rfl rfl ?_; conv => whnf) | (refine ACall.upd (number_m _ h2) 1000 rfl rfl rfl ?_; conv => whnf) | (refine ACall.upd (node_m _ h0) 1000 rfl rfl rfl ?_; conv => whnf) | (refine ACall.upd (number_m _ g1) 1000 rfl rfl rfl ?_; conv => whnf) | (refine ACall.upd (node_m _ g1) 1000 rfl rfl rfl ?_; conv => whnf) | (exact trivial) | (refine And.intro rfl ?_; conv => whnf))
    · have hkk : k = 10 := by have := implKind_of hk hno (.inl (by simp only [decide_eq_true_eq, decide_eq_false_iff_not, List.length_map, Bool.not_eq_true', Bool.not_eq_false'] at *; omega)); omega
      subst hkk
      clear hno
      repeat' (first | (refine AWP.seq ?_) | (refine AWP.region av_ok ?_; conv => whnf) | (refine AWP.ret ?_; conv => whnf) | (refine AWP.skip ?_; conv => whnf) | (refine AWP.exit ?_; conv => whnf) | (refine AWP.block ?_; conv => whnf) | (refine AWP.cond ?_; conv => whnf) | (refine AB.tt ?_; conv => whnf) | (refine AB.ff ?_; conv => whnf) | (refine AB.ofT (by assumption) ?_; conv => whnf) | (refine AB.ofF (by assumption) ?_; conv => whnf) | (refine AB.ofT (by decide) ?_; conv => whnf) | (refine AB.ofF (by decide) ?_; conv => whnf) | (refine ACall.upd (number_m _ h0) 1000 rfl rfl rfl ?_; conv => whnf) | (refine ACall.upd (number_m _ h1) 1000 rfl rfl rfl ?_; conv => whnf) | (refine ACall.upd (number_m _ h2) 1000 rfl rfl rfl ?_; conv => whnf) | (refine ACall.upd (node_m _ h0) 1000 rfl rfl rfl ?_; conv => whnf) | (refine ACall.upd (number_m _ g1) 1000 rfl rfl rfl ?_; conv => whnf) | (refine ACall.upd (node_m _ g1) 1000 rfl rfl rfl ?_; conv => whnf) | (exact trivial) | (refine And.intro rfl ?_; conv => whnf))
theorem step_m11 (s : Sc) (hs : s.ok) (hkd : implKind s.cur = 11) : MCall av 109 [.one (.ref 1000 0 0 0)] [(1000, s.o)] [(1000, (stRead 11 s.next).s.o)] [1000] (.val (.agg [.d (dI 11), .d (dI (stRead 11 s.next).a), .d (dI (stRead 11 s.next).b), .d (dI (stRead 11 s.next).c), .nil])) := by
  have wm := word_m s hs
  have h0 := hs.next
  have h1 := h0.num
  have h2 := h1.num
  have g1 := h0.node
  refine mcall_of av_ok Tryd.func109 rfl Tryd.call109 Tryd.ntmps109 (congrArg Array.toList Tryd.results109) rfl fun S pv => ?_; conv => whnf
  repeat' (first | (refine AWP.seq ?_) | (refine AWP.region av_ok ?_; conv => whnf) | (refine AWP.ret ?_; conv => whnf) | (refine AWP.skip ?_; conv => whnf) | (refine AWP.exit ?_; conv => whnf) | (refine AWP.block ?_; conv => whnf) | (refine AWP.cond ?_; conv => whnf) | (refine AB.tt ?_; conv => whnf) | (refine AB.ff ?_; conv => whnf) | (refine AB.ofT (by assumption) ?_; conv => whnf) | (refine AB.ofF (by assumption) ?_; conv => whnf) | (refine ACall.upd wm 1000 rfl rfl rfl ?_; conv => whnf) | (exact trivial) | (refine And.intro rfl ?_; conv => whnf) | (refine AB.mk (fun h => ?_) (fun h => ?_) <;> (conv => whnf)) | (with_reducible_and_instances rfl) | (exact (rfl : AP.tup _ = AP.tup _)))
  refine AWP.loopS (fun k : Nat => k ≤ 11 ∧ ∀ j : Nat, k < j → j ≤ 11 → kindL j ≠ s.cur) [8, 9, 10, 11, 12, 13, 14, 15, 16, 17, 18, 19, 20, 21] (fun k => []) (fun k => [(9999, .frame (pinsOf [1000]) pv), (1000, s.next.o), (2, .cells 47 [.d (dI 0), .d (dI 0), .d (dI 0), .d (dI 0), .nil]), (4, .cells 47 [.d (dI (k : Int)), .d (dI 0), .d (dI 0), .d (dI 0), .nil])]) (fun k => k) 11 ⟨by omega, fun j h1 h2 => by omega⟩ ?_ (SubO.cons rfl (SubO.cons rfl (SubO.cons rfl (SubO.cons rfl SubO.nil)))) (fun k hR => ?_) <;> (conv => whnf)
  · repeat' (first | exact trivial | (refine And.intro rfl ?_; conv => whnf))
  · obtain ⟨hk, hno⟩ := hR
    repeat' (first | (refine AWP.seq ?_) | (refine AWP.region av_ok ?_; conv => whnf) | (refine AWP.ret ?_; conv => whnf) | (refine AWP.skip ?_; conv => whnf) | (refine AWP.exit ?_; conv => whnf) | (refine AWP.block ?_; conv => whnf) | (refine AWP.cond ?_; conv => whnf) | (refine AB.tt ?_; conv => whnf) | (refine AB.ff ?_; conv => whnf) | (refine AB.ofT (by assumption) ?_; conv => whnf) | (refine AB.ofF (by assumption) ?_; conv => whnf) | (refine And.intro rfl ?_; conv => whnf))
    refine AB.mk (fun h => ?_) (fun h => ?_) <;> (conv => whnf)
    · repeat' (first | (refine AWP.seq ?_) | (refine AWP.region av_ok ?_; conv => whnf) | (refine AWP.ret ?_; conv => whnf) | (refine AWP.skip ?_; conv => whnf) | (refine AWP.exit ?_; conv => whnf) | (refine AWP.block ?_; conv => whnf) | (refine AWP.cond ?_; conv => whnf) | (refine AB.tt ?_; conv => whnf) | (refine AB.ff ?_; conv => whnf) | (refine AB.ofT (by assumption) ?_; conv => whnf) | (refine AB.ofF (by assumption) ?_; conv => whnf) | (refine ACall.pure (istepWord_p (k : Int) (by simp only [decide_eq_true_eq, decide_eq_false_iff_not, List.length_map, Bool.not_eq_true', Bool.not_eq_false'] at *; omega) (by simp only [decide_eq_true_eq, decide_eq_false_iff_not, List.length_map, Bool.not_eq_true', Bool.not_eq_false'] at *; omega)) rfl ?_; conv => whnf) | (refine And.intro rfl ?_; conv => whnf))
      refine AB.mk (fun h2 => ?_) (fun h2 => ?_) <;> (conv => whnf)
      · have hk1 : 1 ≤ k := (by simp only [decide_eq_true_eq, decide_eq_false_iff_not, List.length_map, Bool.not_eq_true', Bool.not_eq_false'] at *; omega)
        have hne : kindL k ≠ s.cur := by rw [str_dec] at h2; simpa using h2
        repeat' (first | (refine AWP.seq ?_) | (refine AWP.region av_ok ?_; conv => whnf) | (refine AWP.ret ?_; conv => whnf) | (refine AWP.skip ?_; conv => whnf) | (refine AWP.exit ?_; conv => whnf) | (refine AWP.block ?_; conv => whnf) | (refine AWP.cond ?_; conv => whnf) | (refine AB.tt ?_; conv => whnf) | (refine AB.ff ?_; conv => whnf) | (refine AB.ofT (by assumption) ?_; conv => whnf) | (refine AB.ofF (by assumption) ?_; conv => whnf) | (refine AW.as ((k - 1 : Nat) : Int) (by rw [wrap_i64_of (by omega) (by omega)]; omega) ?_; conv => whnf) | (refine And.intro rfl ?_; conv => whnf))
        refine ANext.mk ⟨k - 1, ⟨by omega, fun j h1 h2 => ?_⟩, by omega, ?_, SubO.cons rfl (SubO.cons rfl (SubO.cons rfl (SubO.cons rfl SubO.nil)))⟩
        · by_cases hjk : j = k
          · subst hjk; exact hne
          · exact hno j (by omega) h2
        · (conv => whnf); repeat' (first | exact trivial | (refine ⟨rfl, ?_⟩; conv => whnf))
      · have heq : kindL k = s.cur := by rw [str_dec] at h2; simpa using h2
        have hkk : k = 11 := by have := implKind_of hk hno (.inr heq); omega
        subst hkk
        clear h h2 hno
        repeat' (first | (refine AWP.seq ?_) | (refine AWP.region av_ok ?_; conv => whnf) | (refine AWP.ret ?_; conv => whnf) | (refine AWP.skip ?_; conv => whnf) | (refine AWP.exit ?_; conv => whnf) | (refine AWP.block ?_; conv => whnf) | (refine AWP.cond ?_; conv => whnf) | (refine AB.tt ?_; conv => whnf) | (refine AB.ff ?_; conv => whnf) | (refine AB.ofT (by assumption) ?_; conv => whnf) | (refine AB.ofF (by assumption) ?_; conv => whnf) | (refine AB.ofT (by decide) ?_; conv => whnf) | (refine AB.ofF (by decide) ?_; conv => whnf) | (refine ACall.upd (number_m _ h0) 1000 rfl rfl rfl ?_; conv => whnf) | (refine ACall.upd (number_m _ h1) 1000 rfl rfl rfl ?_; conv => whnf) | (refine ACall.upd (number_m _ h2) 1000 rfl rfl rfl ?_; conv => whnf) | (refine ACall.upd (node_m _ h0) 1000 rfl rfl rfl ?_; conv => whnf) | (refine ACall.upd (number_m _ g1) 1000 rfl rfl rfl ?_; conv => whnf) | (refine ACall.upd (node_m _ g1) 1000 rfl rfl rfl ?_; conv => whnf) | (exact trivial) | (refine And.intro rfl ?_; conv => whnf))
    · have hkk : k = 11 := by have := implKind_of hk hno (.inl (by simp only [decide_eq_true_eq, decide_eq_false_iff_not, List.length_map, Bool.not_eq_true', Bool.not_eq_false'] at *; omega)); omega
      subst hkk
      clear hno
      repeat' (first | (refine AWP.seq ?_) | (refine AWP.region av_ok ?_; conv => whnf) | (refine AWP.ret ?_; conv => whnf) | (refine AWP.skip ?_; conv => whnf) | (refine AWP.exit ?_; conv => whnf) | (refine AWP.block ?_; conv => whnf) | (refine AWP.cond ?_; conv => whnf) | (refine AB.tt ?_; conv => whnf) | (refine AB.ff ?_; conv => whnf) | (refine AB.ofT (by assumption) ?_; conv => whnf) | (refine AB.ofF (by assumption) ?_; conv => whnf) | (refine AB.ofT (by decide) ?_; conv => whnf) | (refine AB.ofF (by decide) ?_; conv => whnf) | (refine ACall.upd (number_m _ h0) 1000 rfl rfl rfl ?_; conv => whnf) | (refine ACall.upd (number_m _ h1) 1000 rfl rfl rfl ?_; conv => whnf) | (refine ACall.upd (number_m _ h2) 1000 rfl rfl rfl ?_; conv => whnf) | (refine ACall.upd (node_m _ h0) 1000 rfl rfl rfl ?_; conv => whnf) | (refine ACall.upd (number_m _ g1) 1000 rfl rfl rfl ?_; conv => whnf) | (refine ACall.upd (node_m _ g1) 1000 rfl rfl rfl ?_; conv => whnf) | (exact trivial) | (refine And.intro rfl ?_; conv => whnf))
theorem step_m5a (s : Sc) (hs : s.ok) (hkd : implKind s.cur = 5) (hd : (scNode s.next).2.ws = []) : MCall av 109 [.one (.ref 1000 0 0 0)] [(1000, s.o)] [(1000, (scNode s.next).2.o)] [1000] (.val (.agg [.d (dI 5), .d (dI (scNode s.next).1), .d (dI 0), .d (dI 0), .nil])) := by
  have wm := word_m s hs
  have h0 := hs.next
  have h1 := h0.num
  have h2 := h1.num
  have g1 := h0.node
  have fm := fates_m0 _ hd
  refine mcall_of av_ok Tryd.func109 rfl Tryd.call109 Tryd.ntmps109 (congrArg Array.toList Tryd.results109) rfl fun S pv => ?_; conv => whnf
  repeat' (first | (refine AWP.seq ?_) | (refine AWP.region av_ok ?_; conv => whnf) | (refine AWP.ret ?_; conv => whnf) | (refine AWP.skip ?_; conv => whnf) | (refine AWP.exit ?_; conv => whnf) | (refine AWP.block ?_; conv => whnf) | (refine AWP.cond ?_; conv => whnf) | (refine AB.tt ?_; conv => whnf) | (refine AB.ff ?_; conv => whnf) | (refine AB.ofT (by assumption) ?_; conv => whnf) | (refine AB.ofF (by assumption) ?_; conv => whnf) | (refine ACall.upd wm 1000 rfl rfl rfl ?_; conv => whnf) | (exact trivial) | (refine And.intro rfl ?_; conv => whnf) | (refine AB.mk (fun h => ?_) (fun h => ?_) <;> (conv => whnf)) | (with_reducible_and_instances rfl) | (exact (rfl : AP.tup _ = AP.tup _)))
  refine AWP.loopS (fun k : Nat => k ≤ 11 ∧ ∀ j : Nat, k < j → j ≤ 11 → kindL j ≠ s.cur) [8, 9, 10, 11, 12, 13, 14, 15, 16, 17, 18, 19, 20, 21] (fun k => []) (fun k => [(9999, .frame (pinsOf [1000]) pv), (1000, s.next.o), (2, .cells 47 [.d (dI 0), .d (dI 0), .d (dI 0), .d (dI 0), .nil]), (4, .cells 47 [.d (dI (k : Int)), .d (dI 0), .d (dI 0), .d (dI 0), .nil])]) (fun k => k) 11 ⟨by omega, fun j h1 h2 => by omega⟩ ?_ (SubO.cons rfl (SubO.cons rfl (SubO.cons rfl (SubO.cons rfl SubO.nil)))) (fun k hR => ?_) <;> (conv => whnf)
  · repeat' (first | exact trivial | (refine And.intro rfl ?_; conv => whnf))
  · obtain ⟨hk, hno⟩ := hR
    repeat' (first | (refine AWP.seq ?_) | (refine AWP.region av_ok ?_; conv => whnf) | (refine AWP.ret ?_; conv => whnf) | (refine AWP.skip ?_; conv => whnf) | (refine AWP.exit ?_; conv => whnf) | (refine AWP.block ?_; conv => whnf) | (refine AWP.cond ?_; conv => whnf) | (refine AB.tt ?_; conv => whnf) | (refine AB.ff ?_; conv => whnf) | (refine AB.ofT (by assumption) ?_; conv => whnf) | (refine AB.ofF (by assumption) ?_; conv => whnf) | (refine And.intro rfl ?_; conv => whnf))
    refine AB.mk (fun h => ?_) (fun h => ?_) <;> (conv => whnf)
    · repeat' (first | (refine AWP.seq ?_) | (refine AWP.region av_ok ?_; conv => whnf) | (refine AWP.ret ?_; conv => whnf) | (refine AWP.skip ?_; conv => whnf) | (refine AWP.exit ?_; conv => whnf) | (refine AWP.block ?_; conv => whnf) | (refine AWP.cond ?_; conv => whnf) | (refine AB.tt ?_; conv => whnf) | (refine AB.ff ?_; conv => whnf) | (refine AB.ofT (by assumption) ?_; conv => whnf) | (refine AB.ofF (by assumption) ?_; conv => whnf) | (refine ACall.pure (istepWord_p (k : Int) (by simp only [decide_eq_true_eq, decide_eq_false_iff_not, List.length_map, Bool.not_eq_true', Bool.not_eq_false'] at *; omega) (by simp only [decide_eq_true_eq, decide_eq_false_iff_not, List.length_map, Bool.not_eq_true', Bool.not_eq_false'] at *; omega)) rfl ?_; conv => whnf) | (refine And.intro rfl ?_; conv => whnf))
      refine AB.mk (fun h2 => ?_) (fun h2 => ?_) <;> (conv => whnf)
      · have hk1 : 1 ≤ k := (by simp only [decide_eq_true_eq, decide_eq_false_iff_not, List.length_map, Bool.not_eq_true', Bool.not_eq_false'] at *; omega)
        have hne : kindL k ≠ s.cur := by rw [str_dec] at h2; simpa using h2
        repeat' (first | (refine AWP.seq ?_) | (refine AWP.region av_ok ?_; conv => whnf) | (refine AWP.ret ?_; conv => whnf) | (refine AWP.skip ?_; conv => whnf) | (refine AWP.exit ?_; conv => whnf) | (refine AWP.block ?_; conv => whnf) | (refine AWP.cond ?_; conv => whnf) | (refine AB.tt ?_; conv => whnf) | (refine AB.ff ?_; conv => whnf) | (refine AB.ofT (by assumption) ?_; conv => whnf) | (refine AB.ofF (by assumption) ?_; conv => whnf) | (refine AW.as ((k - 1 : Nat) : Int) (by rw [wrap_i64_of (by omega) (by omega)]; omega) ?_; conv => whnf) | (refine And.intro rfl ?_; conv => whnf))
        refine ANext.mk ⟨k - 1, ⟨by omega, fun j h1 h2 => ?_⟩, by omega, ?_, SubO.cons rfl (SubO.cons rfl (SubO.cons rfl (SubO.cons rfl SubO.nil)))⟩
        · by_cases hjk : j = k
          · subst hjk; exact hne
          · exact hno j (by omega) h2
        · (conv => whnf); repeat' (first | exact trivial | (refine ⟨rfl, ?_⟩; conv => whnf))
      · have heq : kindL k = s.cur := by rw [str_dec] at h2; simpa using h2
        have hkk : k = 5 := by have := implKind_of hk hno (.inr heq); omega
        subst hkk
        clear h h2 hno
        repeat' (first | (refine AWP.seq ?_) | (refine AWP.region av_ok ?_; conv => whnf) | (refine AWP.ret ?_; conv => whnf) | (refine AWP.skip ?_; conv => whnf) | (refine AWP.exit ?_; conv => whnf) | (refine AWP.block ?_; conv => whnf) | (refine AWP.cond ?_; conv => whnf) | (refine AB.tt ?_; conv => whnf) | (refine AB.ff ?_; conv => whnf) | (refine AB.ofT (by assumption) ?_; conv => whnf) | (refine AB.ofF (by assumption) ?_; conv => whnf) | (refine AB.ofT (by decide) ?_; conv => whnf) | (refine AB.ofF (by decide) ?_; conv => whnf) | (refine ACall.upd (number_m _ h0) 1000 rfl rfl rfl ?_; conv => whnf) | (refine ACall.upd (number_m _ h1) 1000 rfl rfl rfl ?_; conv => whnf) | (refine ACall.upd (number_m _ h2) 1000 rfl rfl rfl ?_; conv => whnf) | (refine ACall.upd (node_m _ h0) 1000 rfl rfl rfl ?_; conv => whnf) | (refine ACall.upd (number_m _ g1) 1000 rfl rfl rfl ?_; conv => whnf) | (refine ACall.upd (node_m _ g1) 1000 rfl rfl rfl ?_; conv => whnf) | (refine ACall.upd fm 1000 rfl rfl rfl ?_; conv => whnf) | (exact trivial) | (refine And.intro rfl ?_; conv => whnf))
    · have hkk : k = 5 := by have := implKind_of hk hno (.inl (by simp only [decide_eq_true_eq, decide_eq_false_iff_not, List.length_map, Bool.not_eq_true', Bool.not_eq_false'] at *; omega)); omega
      subst hkk
      clear hno
      repeat' (first | (refine AWP.seq ?_) | (refine AWP.region av_ok ?_; conv => whnf) | (refine AWP.ret ?_; conv => whnf) | (refine AWP.skip ?_; conv => whnf) | (refine AWP.exit ?_; conv => whnf) | (refine AWP.block ?_; conv => whnf) | (refine AWP.cond ?_; conv => whnf) | (refine AB.tt ?_; conv => whnf) | (refine AB.ff ?_; conv => whnf) | (refine AB.ofT (by assumption) ?_; conv => whnf) | (refine AB.ofF (by assumption) ?_; conv => whnf) | (refine AB.ofT (by decide) ?_; conv => whnf) | (refine AB.ofF (by decide) ?_; conv => whnf) | (refine ACall.upd (number_m _ h0) 1000 rfl rfl rfl ?_; conv => whnf) | (refine ACall.upd (number_m _ h1) 1000 rfl rfl rfl ?_; conv => whnf) | (refine ACall.upd (number_m _ h2) 1000 rfl rfl rfl ?_; conv => whnf) | (refine ACall.upd (node_m _ h0) 1000 rfl rfl rfl ?_; conv => whnf) | (refine ACall.upd (number_m _ g1) 1000 rfl rfl rfl ?_; conv => whnf) | (refine ACall.upd (node_m _ g1) 1000 rfl rfl rfl ?_; conv => whnf) | (refine ACall.upd fm 1000 rfl rfl rfl ?_; conv => whnf) | (exact trivial) | (refine And.intro rfl ?_; conv => whnf))
theorem step_m5b (s : Sc) (hs : s.ok) (hkd : implKind s.cur = 5) (hd : (scNode s.next).2.ws ≠ []) : MCall av 109 [.one (.ref 1000 0 0 0)] [(1000, s.o)] [(1000, (scFates (scNode s.next).2).o), (900, .row 2 1 ((fatesOf (scNode s.next).2.cur).map eI))] [1000] (.val (.agg [.d (dI 5), .d (dI (scNode s.next).1), .d (dI 0), .d (dI 0), .own 900])) := by
  have wm := word_m s hs
  have h0 := hs.next
  have h1 := h0.num
  have h2 := h1.num
  have g1 := h0.node
  have fm := fates_m1 _ g1 hd
  refine mcall_of av_ok Tryd.func109 rfl Tryd.call109 Tryd.ntmps109 (congrArg Array.toList Tryd.results109) rfl fun S pv => ?_; conv => whnf
  repeat' (first | (refine AWP.seq ?_) | (refine AWP.region av_ok ?_; conv => whnf) | (refine AWP.ret ?_; conv => whnf) | (refine AWP.skip ?_; conv => whnf) | (refine AWP.exit ?_; conv => whnf) | (refine AWP.block ?_; conv => whnf) | (refine AWP.cond ?_; conv => whnf) | (refine AB.tt ?_; conv => whnf) | (refine AB.ff ?_; conv => whnf) | (refine AB.ofT (by assumption) ?_; conv => whnf) | (refine AB.ofF (by assumption) ?_; conv => whnf) | (refine ACall.upd wm 1000 rfl rfl rfl ?_; conv => whnf) | (exact trivial) | (refine And.intro rfl ?_; conv => whnf) | (refine AB.mk (fun h => ?_) (fun h => ?_) <;> (conv => whnf)) | (with_reducible_and_instances rfl) | (exact (rfl : AP.tup _ = AP.tup _)))
  refine AWP.loopS (fun k : Nat => k ≤ 11 ∧ ∀ j : Nat, k < j → j ≤ 11 → kindL j ≠ s.cur) [8, 9, 10, 11, 12, 13, 14, 15, 16, 17, 18, 19, 20, 21] (fun k => []) (fun k => [(9999, .frame (pinsOf [1000]) pv), (1000, s.next.o), (2, .cells 47 [.d (dI 0), .d (dI 0), .d (dI 0), .d (dI 0), .nil]), (4, .cells 47 [.d (dI (k : Int)), .d (dI 0), .d (dI 0), .d (dI 0), .nil])]) (fun k => k) 11 ⟨by omega, fun j h1 h2 => by omega⟩ ?_ (SubO.cons rfl (SubO.cons rfl (SubO.cons rfl (SubO.cons rfl SubO.nil)))) (fun k hR => ?_) <;> (conv => whnf)
  · repeat' (first | exact trivial | (refine And.intro rfl ?_; conv => whnf))
  · obtain ⟨hk, hno⟩ := hR
    repeat' (first | (refine AWP.seq ?_) | (refine AWP.region av_ok ?_; conv => whnf) | (refine AWP.ret ?_; conv => whnf) | (refine AWP.skip ?_; conv => whnf) | (refine AWP.exit ?_; conv => whnf) | (refine AWP.block ?_; conv => whnf) | (refine AWP.cond ?_; conv => whnf) | (refine AB.tt ?_; conv => whnf) | (refine AB.ff ?_; conv => whnf) | (refine AB.ofT (by assumption) ?_; conv => whnf) | (refine AB.ofF (by assumption) ?_; conv => whnf) | (refine And.intro rfl ?_; conv => whnf))
    refine AB.mk (fun h => ?_) (fun h => ?_) <;> (conv => whnf)
    · repeat' (first | (refine AWP.seq ?_) | (refine AWP.region av_ok ?_; conv => whnf) | (refine AWP.ret ?_; conv => whnf) | (refine AWP.skip ?_; conv => whnf) | (refine AWP.exit ?_; conv => whnf) | (refine AWP.block ?_; conv => whnf) | (refine AWP.cond ?_; conv => whnf) | (refine AB.tt ?_; conv => whnf) | (refine AB.ff ?_; conv => whnf) | (refine AB.ofT (by assumption) ?_; conv => whnf) | (refine AB.ofF (by assumption) ?_; conv => whnf) | (refine ACall.pure (istepWord_p (k : Int) (by simp only [decide_eq_true_eq, decide_eq_false_iff_not, List.length_map, Bool.not_eq_true', Bool.not_eq_false'] at *; omega) (by simp only [decide_eq_true_eq, decide_eq_false_iff_not, List.length_map, Bool.not_eq_true', Bool.not_eq_false'] at *; omega)) rfl ?_; conv => whnf) | (refine And.intro rfl ?_; conv => whnf))
      refine AB.mk (fun h2 => ?_) (fun h2 => ?_) <;> (conv => whnf)
      · have hk1 : 1 ≤ k := (by simp only [decide_eq_true_eq, decide_eq_false_iff_not, List.length_map, Bool.not_eq_true', Bool.not_eq_false'] at *; omega)
        have hne : kindL k ≠ s.cur := by rw [str_dec] at h2; simpa using h2
        repeat' (first | (refine AWP.seq ?_) | (refine AWP.region av_ok ?_; conv => whnf) | (refine AWP.ret ?_; conv => whnf) | (refine AWP.skip ?_; conv => whnf) | (refine AWP.exit ?_; conv => whnf) | (refine AWP.block ?_; conv => whnf) | (refine AWP.cond ?_; conv => whnf) | (refine AB.tt ?_; conv => whnf) | (refine AB.ff ?_; conv => whnf) | (refine AB.ofT (by assumption) ?_; conv => whnf) | (refine AB.ofF (by assumption) ?_; conv => whnf) | (refine AW.as ((k - 1 : Nat) : Int) (by rw [wrap_i64_of (by omega) (by omega)]; omega) ?_; conv => whnf) | (refine And.intro rfl ?_; conv => whnf))
        refine ANext.mk ⟨k - 1, ⟨by omega, fun j h1 h2 => ?_⟩, by omega, ?_, SubO.cons rfl (SubO.cons rfl (SubO.cons rfl (SubO.cons rfl SubO.nil)))⟩
        · by_cases hjk : j = k
          · subst hjk; exact hne
          · exact hno j (by omega) h2
        · (conv => whnf); repeat' (first | exact trivial | (refine ⟨rfl, ?_⟩; conv => whnf))
      · have heq : kindL k = s.cur := by rw [str_dec] at h2; simpa using h2
        have hkk : k = 5 := by have := implKind_of hk hno (.inr heq); omega
        subst hkk
        clear h h2 hno
        repeat' (first | (refine AWP.seq ?_) | (refine AWP.region av_ok ?_; conv => whnf) | (refine AWP.ret ?_; conv => whnf) | (refine AWP.skip ?_; conv => whnf) | (refine AWP.exit ?_; conv => whnf) | (refine AWP.block ?_; conv => whnf) | (refine AWP.cond ?_; conv => whnf) | (refine AB.tt ?_; conv => whnf) | (refine AB.ff ?_; conv => whnf) | (refine AB.ofT (by assumption) ?_; conv => whnf) | (refine AB.ofF (by assumption) ?_; conv => whnf) | (refine AB.ofT (by decide) ?_; conv => whnf) | (refine AB.ofF (by decide) ?_; conv => whnf) | (refine ACall.upd (number_m _ h0) 1000 rfl rfl rfl ?_; conv => whnf) | (refine ACall.upd (number_m _ h1) 1000 rfl rfl rfl ?_; conv => whnf) | (refine ACall.upd (number_m _ h2) 1000 rfl rfl rfl ?_; conv => whnf) | (refine ACall.upd (node_m _ h0) 1000 rfl rfl rfl ?_; conv => whnf) | (refine ACall.upd (number_m _ g1) 1000 rfl rfl rfl ?_; conv => whnf) | (refine ACall.upd (node_m _ g1) 1000 rfl rfl rfl ?_; conv => whnf) | (refine ACall.meth fm [(1000, 1000), (12, 900)] rfl rfl ?_; (conv => whnf); refine And.intro rfl ?_; conv => whnf) | (exact trivial) | (refine And.intro rfl ?_; conv => whnf))
    · have hkk : k = 5 := by have := implKind_of hk hno (.inl (by simp only [decide_eq_true_eq, decide_eq_false_iff_not, List.length_map, Bool.not_eq_true', Bool.not_eq_false'] at *; omega)); omega
      subst hkk
      clear hno
      repeat' (first | (refine AWP.seq ?_) | (refine AWP.region av_ok ?_; conv => whnf) | (refine AWP.ret ?_; conv => whnf) | (refine AWP.skip ?_; conv => whnf) | (refine AWP.exit ?_; conv => whnf) | (refine AWP.block ?_; conv => whnf) | (refine AWP.cond ?_; conv => whnf) | (refine AB.tt ?_; conv => whnf) | (refine AB.ff ?_; conv => whnf) | (refine AB.ofT (by assumption) ?_; conv => whnf) | (refine AB.ofF (by assumption) ?_; conv => whnf) | (refine AB.ofT (by decide) ?_; conv => whnf) | (refine AB.ofF (by decide) ?_; conv => whnf) | (refine ACall.upd (number_m _ h0) 1000 rfl rfl rfl ?_; conv => whnf) | (refine ACall.upd (number_m _ h1) 1000 rfl rfl rfl ?_; conv => whnf) | (refine ACall.upd (number_m _ h2) 1000 rfl rfl rfl ?_; conv => whnf) | (refine ACall.upd (node_m _ h0) 1000 rfl rfl rfl ?_; conv => whnf) | (refine ACall.upd (number_m _ g1) 1000 rfl rfl rfl ?_; conv => whnf) | (refine ACall.upd (node_m _ g1) 1000 rfl rfl rfl ?_; conv => whnf) | (refine ACall.meth fm [(1000, 1000), (12, 900)] rfl rfl ?_; (conv => whnf); refine And.intro rfl ?_; conv => whnf) | (exact trivial) | (refine And.intro rfl ?_; conv => whnf))
end Go.Proofs.YtlhanpkfnhnegaaDoor
/- TextStep of the program. -/
namespace Go.Proofs.YtlhanpkfnhnegaaDoor
open Go.RowKit

abbrev stpZ : DStep := ⟨0, 0, 0, 0, []⟩
abbrev stAgg (k a b c : Int) (f : AC) : AA := .agg [.d (dI k), .d (dI a), .d (dI b), .d (dI c), f]
theorem textStep_nil (l : List UInt8) (k a b c : Int) (t : Sc) (sm : MCall av 109 [.one (.ref 1000 0 0 0)] [(1000, startO l)] [(1000, t.o)] [1000] (.val (stAgg k a b c .nil))) :
    MCall av 49 [.one (.d (dL l))] [] [] [] (if t.over && stepOk ⟨k, a, b, c, []⟩ then .tup [stAgg k a b c .nil, .one (.d (dB true))] else .tup [stAgg 0 0 0 0 .nil, .one (.d (dB false))]) := by
  have vm := over_m t
  have hov : t.over = (t.ws.isEmpty && !t.bad) := rfl
  rw [← hov] at vm
  clear hov
  cases h1 : t.over with
  | false =>
    have h1' : (!t.over) = true := by rw [h1]; rfl
    simp only [Bool.false_and, Bool.false_eq_true, if_false]
    refine mcall_of av_ok Tryd.func49 rfl Tryd.call49 Tryd.ntmps49 (congrArg Array.toList Tryd.results49) rfl fun S pv => ?_; conv => whnf
    repeat' (first | (refine AWP.seq ?_) | (refine AWP.region av_ok ?_; conv => whnf) | (refine AWP.ret ?_; conv => whnf) | (refine AWP.skip ?_; conv => whnf) | (refine AWP.exit ?_; conv => whnf) | (refine AWP.block ?_; conv => whnf) | (refine AWP.cond ?_; conv => whnf) | (refine AB.tt ?_; conv => whnf) | (refine AB.ff ?_; conv => whnf) | (refine AB.ofT (by assumption) ?_; conv => whnf) | (refine AB.ofF (by assumption) ?_; conv => whnf) | (refine ACall.upd sm 8 rfl rfl rfl ?_; conv => whnf) | (refine ACall.upd vm 8 rfl rfl rfl ?_; conv => whnf) | (exact trivial) | (refine And.intro rfl ?_; conv => whnf) | (refine AB.mk (fun h => ?_) (fun h => ?_) <;> (conv => whnf)) | (with_reducible_and_instances rfl) | (exact (rfl : AP.tup _ = AP.tup _)))
  | true =>
    have h1' : (!t.over) = false := by rw [h1]; rfl
    cases h2 : stepOk ⟨k, a, b, c, []⟩ with
    | false =>
      have h2' : (!stepOk ⟨k, a, b, c, []⟩) = true := by rw [h2]; rfl
      simp only [Bool.and_false, Bool.false_eq_true, if_false]
      refine mcall_of av_ok Tryd.func49 rfl Tryd.call49 Tryd.ntmps49 (congrArg Array.toList Tryd.results49) rfl fun S pv => ?_; conv => whnf
      repeat' (first | (refine AWP.seq ?_) | (refine AWP.region av_ok ?_; conv => whnf) | (refine AWP.ret ?_; conv => whnf) | (refine AWP.skip ?_; conv => whnf) | (refine AWP.exit ?_; conv => whnf) | (refine AWP.block ?_; conv => whnf) | (refine AWP.cond ?_; conv => whnf) | (refine AB.tt ?_; conv => whnf) | (refine AB.ff ?_; conv => whnf) | (refine AB.ofT (by assumption) ?_; conv => whnf) | (refine AB.ofF (by assumption) ?_; conv => whnf) | (refine ACall.upd sm 8 rfl rfl rfl ?_; conv => whnf) | (refine ACall.upd vm 8 rfl rfl rfl ?_; conv => whnf) | (refine ACall.pure (iStepOk_p ⟨k, a, b, c, []⟩) rfl ?_; conv => whnf) | (exact trivial) | (refine And.intro rfl ?_; conv => whnf) | (refine AB.mk (fun h => ?_) (fun h => ?_) <;> (conv => whnf)) | (with_reducible_and_instances rfl) | (exact (rfl : AP.tup _ = AP.tup _)))
    | true =>
      have h2' : (!stepOk ⟨k, a, b, c, []⟩) = false := by rw [h2]; rfl
      simp only [Bool.and_self, if_true]
      refine mcall_of av_ok Tryd.func49 rfl Tryd.call49 Tryd.ntmps49 (congrArg Array.toList Tryd.results49) rfl fun S pv => ?_; conv => whnf
      repeat' (first | (refine AWP.seq ?_) | (refine AWP.region av_ok ?_; conv => whnf) | (refine AWP.ret ?_; conv => whnf) | (refine AWP.skip ?_; conv => whnf) | (refine AWP.exit ?_; conv => whnf) | (refine AWP.block ?_; conv => whnf) | (refine AWP.cond ?_; conv => whnf) | (refine AB.tt ?_; conv => whnf) | (refine AB.ff ?_; conv => whnf) | (refine AB.ofT (by assumption) ?_; conv => whnf) | (refine AB.ofF (by assumption) ?_; conv => whnf) | (refine ACall.upd sm 8 rfl rfl rfl ?_; conv => whnf) | (refine ACall.upd vm 8 rfl rfl rfl ?_; conv => whnf) | (refine ACall.pure (iStepOk_p ⟨k, a, b, c, []⟩) rfl ?_; conv => whnf) | (exact trivial) | (refine And.intro rfl ?_; conv => whnf) | (refine AB.mk (fun h => ?_) (fun h => ?_) <;> (conv => whnf)) | (with_reducible_and_instances rfl) | (exact (rfl : AP.tup _ = AP.tup _)))
theorem textStep_own (l : List UInt8) (k a b c : Int) (f : List Int) (t : Sc) (sm : MCall av 109 [.one (.ref 1000 0 0 0)] [(1000, startO l)] [(1000, t.o), (900, .row 2 1 (f.map eI))] [1000] (.val (stAgg k a b c (.own 900)))) :
    (t.over = true → stepOk ⟨k, a, b, c, f⟩ = true → MCall av 49 [.one (.d (dL l))] [] [(901, .row 2 1 (f.map eI))] [] (.tup [stAgg k a b c (.own 901), .one (.d (dB true))])) ∧
    ((t.over && stepOk ⟨k, a, b, c, f⟩) = false → MCall av 49 [.one (.d (dL l))] [] [] [] (.tup [stAgg 0 0 0 0 .nil, .one (.d (dB false))])) := by
  have vm := over_m t
  have hov : t.over = (t.ws.isEmpty && !t.bad) := rfl
  rw [← hov] at vm
  clear hov
  refine ⟨fun h1 h2 => ?_, fun h => ?_⟩
  · have h1' : (!t.over) = false := by rw [h1]; rfl
    have h2' : (!stepOk ⟨k, a, b, c, f⟩) = false := by rw [h2]; rfl
    refine mcall_of av_ok Tryd.func49 rfl Tryd.call49 Tryd.ntmps49 (congrArg Array.toList Tryd.results49) rfl fun S pv => ?_; conv => whnf
    repeat' (first | (refine AWP.seq ?_) | (refine AWP.region av_ok ?_; conv => whnf) | (refine AWP.ret ?_; conv => whnf) | (refine AWP.skip ?_; conv => whnf) | (refine AWP.exit ?_; conv => whnf) | (refine AWP.block ?_; conv => whnf) | (refine AWP.cond ?_; conv => whnf) | (refine AB.tt ?_; conv => whnf) | (refine AB.ff ?_; conv => whnf) | (refine AB.ofT (by assumption) ?_; conv => whnf) | (refine AB.ofF (by assumption) ?_; conv => whnf) | (refine ACall.meth sm [(1000, 8), (900, 901)] rfl rfl ?_; (conv => whnf); refine And.intro rfl ?_; conv => whnf) | (refine ACall.upd vm 8 rfl rfl rfl ?_; conv => whnf) | (refine ACall.scalar (iStepOk_p ⟨k, a, b, c, f⟩) rfl rfl ?_; conv => whnf) | (exact trivial) | (refine And.intro rfl ?_; conv => whnf) | (refine AB.mk (fun h => ?_) (fun h => ?_) <;> (conv => whnf)) | (with_reducible_and_instances rfl) | (exact (rfl : AP.tup _ = AP.tup _)))
  · cases h1 : t.over with
    | false =>
      have h1' : (!t.over) = true := by rw [h1]; rfl
      refine mcall_of av_ok Tryd.func49 rfl Tryd.call49 Tryd.ntmps49 (congrArg Array.toList Tryd.results49) rfl fun S pv => ?_; conv => whnf
      repeat' (first | (refine AWP.seq ?_) | (refine AWP.region av_ok ?_; conv => whnf) | (refine AWP.ret ?_; conv => whnf) | (refine AWP.skip ?_; conv => whnf) | (refine AWP.exit ?_; conv => whnf) | (refine AWP.block ?_; conv => whnf) | (refine AWP.cond ?_; conv => whnf) | (refine AB.tt ?_; conv => whnf) | (refine AB.ff ?_; conv => whnf) | (refine AB.ofT (by assumption) ?_; conv => whnf) | (refine AB.ofF (by assumption) ?_; conv => whnf) | (refine ACall.meth sm [(1000, 8), (900, 901)] rfl rfl ?_; (conv => whnf); refine And.intro rfl ?_; conv => whnf) | (refine ACall.upd vm 8 rfl rfl rfl ?_; conv => whnf) | (exact trivial) | (refine And.intro rfl ?_; conv => whnf) | (refine AB.mk (fun h => ?_) (fun h => ?_) <;> (conv => whnf)) | (with_reducible_and_instances rfl) | (exact (rfl : AP.tup _ = AP.tup _)))
    | true =>
      have h2 : stepOk ⟨k, a, b, c, f⟩ = false := by rw [h1] at h; simpa using h
      have h1' : (!t.over) = false := by rw [h1]; rfl
      have h2' : (!stepOk ⟨k, a, b, c, f⟩) = true := by rw [h2]; rfl
      refine mcall_of av_ok Tryd.func49 rfl Tryd.call49 Tryd.ntmps49 (congrArg Array.toList Tryd.results49) rfl fun S pv => ?_; conv => whnf
      repeat' (first | (refine AWP.seq ?_) | (refine AWP.region av_ok ?_; conv => whnf) | (refine AWP.ret ?_; conv => whnf) | (refine AWP.skip ?_; conv => whnf) | (refine AWP.exit ?_; conv => whnf) | (refine AWP.block ?_; conv => whnf) | (refine AWP.cond ?_; conv => whnf) | (refine AB.tt ?_; conv => whnf) | (refine AB.ff ?_; conv => whnf) | (refine AB.ofT (by assumption) ?_; conv => whnf) | (refine AB.ofF (by assumption) ?_; conv => whnf) | (refine ACall.meth sm [(1000, 8), (900, 901)] rfl rfl ?_; (conv => whnf); refine And.intro rfl ?_; conv => whnf) | (refine ACall.upd vm 8 rfl rfl rfl ?_; conv => whnf) | (refine ACall.scalar (iStepOk_p ⟨k, a, b, c, f⟩) rfl rfl ?_; conv => whnf) | (exact trivial) | (refine And.intro rfl ?_; conv => whnf) | (refine AB.mk (fun h => ?_) (fun h => ?_) <;> (conv => whnf)) | (with_reducible_and_instances rfl) | (exact (rfl : AP.tup _ = AP.tup _)))
end Go.Proofs.YtlhanpkfnhnegaaDoor
/- TextStep of the reference. -/
namespace Go.Proofs.YtlhanpkfnhnegaaDoor
open Go.RowKit

def stA (k : Int) (ws : List (List UInt8)) : Int := if k = 1 ∨ k = 7 ∨ k = 8 ∨ k = 11 then numN (ws.getD 1 []) else nodeIx (ws.getD 1 [])
def stB (k : Int) (ws : List (List UInt8)) : Int := if k = 3 ∨ k = 4 ∨ k = 11 then atN ws 2 else if k = 9 ∨ k = 10 then (match ws[2]? with
  | some w => nodeIx w
  | none => -1) else 0
def stC (k : Int) (ws : List (List UInt8)) : Int := if k = 11 then atN ws 3 else 0
def stF (k : Int) (ws : List (List UInt8)) : List Int := if k = 5 then (match ws[2]? with
  | some w => w.map fun b => (b.toNat : Int) - 48
  | none => []) else []
def sStepOf (k : Int) (ws : List (List UInt8)) : DStep := ⟨k, stA k ws, stB k ws, stC k ws, stF k ws⟩
def sTextStepL (l : List UInt8) : DStep × Bool := if 160 < l.length then (stpZ, false) else if stIx ((wordsL 32 l).getD 0 []) < 1 ∨ (wordsL 32 l).length < 2 then (stpZ, false) else if stepTextL (sStepOf (stIx ((wordsL 32 l).getD 0 [])) (wordsL 32 l)) = l then (sStepOf (stIx ((wordsL 32 l).getD 0 [])) (wordsL 32 l), true) else (stpZ, false)
theorem sTextStep_long (l : List UInt8) (h : 160 < l.length) : PCall av 48 [pL l] (.tup [.agg stpZ.ds, .one (dB false)]) := by
  have hlt : decide (((⟨l.toArray⟩ : ByteArray).size : Int) > 160) = true := by rw [sz_dL]; simp; omega
  refine pcall_of av_ok Tryd.func48 rfl Tryd.call48 Tryd.ntmps48 (congrArg Array.toList Tryd.results48) fun S => ?_; conv => whnf
  repeat' (first | (refine AWP.seq ?_) | (refine AWP.region av_ok ?_; conv => whnf) | (refine AWP.ret ?_; conv => whnf) | (refine AWP.skip ?_; conv => whnf) | (refine AWP.exit ?_; conv => whnf) | (refine AWP.block ?_; conv => whnf) | (refine AWP.cond ?_; conv => whnf) | (refine AB.tt ?_; conv => whnf) | (refine AB.ff ?_; conv => whnf) | (refine AB.ofT (by assumption) ?_; conv => whnf) | (refine AB.ofF (by assumption) ?_; conv => whnf) | (exact trivial) | (refine And.intro rfl ?_; conv => whnf) | (refine AB.mk (fun h => ?_) (fun h => ?_) <;> (conv => whnf)) | (with_reducible_and_instances rfl) | (exact (rfl : AP.tup _ = AP.tup _)))
theorem sTextStep_none (l w0 : List UInt8) (r : List (List UInt8)) (hl : l.length ≤ 160) (hw : wordsL 32 l = w0 :: r) (h : stIx w0 < 1 ∨ (w0 :: r).length < 2) : PCall av 48 [pL l] (.tup [.agg stpZ.ds, .one (dB false)]) := by
  have sp := sl1Split_p l 32 (by omega)
  rw [hw] at sp
  have kp := sl1At_p kindsL w0 (by decide)
  have hlt : decide (((⟨l.toArray⟩ : ByteArray).size : Int) > 160) = false := by rw [sz_dL]; simp; omega
  cases hk : decide (idxL kindsL w0 < 1) with
  | true =>
    refine pcall_of av_ok Tryd.func48 rfl Tryd.call48 Tryd.ntmps48 (congrArg Array.toList Tryd.results48) fun S => ?_; conv => whnf
    repeat' (first | (refine AWP.seq ?_) | (refine AWP.region av_ok ?_; conv => whnf) | (refine AWP.ret ?_; conv => whnf) | (refine AWP.skip ?_; conv => whnf) | (refine AWP.exit ?_; conv => whnf) | (refine AWP.block ?_; conv => whnf) | (refine AWP.cond ?_; conv => whnf) | (refine AB.tt ?_; conv => whnf) | (refine AB.ff ?_; conv => whnf) | (refine AB.ofT (by assumption) ?_; conv => whnf) | (refine AB.ofF (by assumption) ?_; conv => whnf) | (refine ACall.pure sp rfl ?_; conv => whnf) | (exact trivial) | (refine And.intro rfl ?_; conv => whnf) | (refine AB.mk (fun h => ?_) (fun h => ?_) <;> (conv => whnf)) | (with_reducible_and_instances rfl) | (exact (rfl : AP.tup _ = AP.tup _)))
    refine' AWP.draw av_ok 7 [[], [], [1], [1, 2], [2, 1, 3, 0], [0, 3, 1, 2, 4], [], [4, 2, 1, 3, 0, 5, 6]] [(_, _), (_, _), (_, _), (_, _), (_, _), (_, _), (_, _)] ?hD ?hok ?hl ?hf ?hno ?ht; (case hD => kernel_rfl); (case hok => kernel_rfl); (case hl => rfl); (case hf => (conv => whnf); repeat' (first | (refine ⟨rfl, rfl⟩) | exact trivial | (refine AFCall.mk ⟨_, _, sl32Kinds_p, .inl rfl, ?_⟩; conv => whnf) | (refine AFCall.mk ⟨_, _, kp, .inl rfl, ?_⟩; conv => whnf) | (refine AIx.at 0 _ rfl rfl ?_; conv => whnf) | (refine And.intro ?_ ?_ <;> conv => whnf))); (case hno => rfl); (case ht => (conv => whnf); repeat' (first | (refine AWP.seq ?_) | (refine AWP.region av_ok ?_; conv => whnf) | (refine AWP.ret ?_; conv => whnf) | (refine AWP.skip ?_; conv => whnf) | (refine AWP.exit ?_; conv => whnf) | (refine AWP.block ?_; conv => whnf) | (refine AWP.cond ?_; conv => whnf) | (refine AB.tt ?_; conv => whnf) | (refine AB.ff ?_; conv => whnf) | (refine AB.ofT (by assumption) ?_; conv => whnf) | (refine AB.ofF (by assumption) ?_; conv => whnf) | (exact trivial) | (refine And.intro rfl ?_; conv => whnf) | (refine AB.mk (fun h => ?_) (fun h => ?_) <;> (conv => whnf)) | (with_reducible_and_instances rfl) | (exact (rfl : AP.tup _ = AP.tup _))))
  | false =>
    have h2 : decide ((((w0 :: r).map eS).length : Int) < 2) = true := by
      have : ¬ stIx w0 < 1 := by simpa [stIx] using hk
      rcases h with h | h
      · exact absurd h this
      · simp only [List.length_map, decide_eq_true_eq]; omega
    refine pcall_of av_ok Tryd.func48 rfl Tryd.call48 Tryd.ntmps48 (congrArg Array.toList Tryd.results48) fun S => ?_; conv => whnf
    repeat' (first | (refine AWP.seq ?_) | (refine AWP.region av_ok ?_; conv => whnf) | (refine AWP.ret ?_; conv => whnf) | (refine AWP.skip ?_; conv => whnf) | (refine AWP.exit ?_; conv => whnf) | (refine AWP.block ?_; conv => whnf) | (refine AWP.cond ?_; conv => whnf) | (refine AB.tt ?_; conv => whnf) | (refine AB.ff ?_; conv => whnf) | (refine AB.ofT (by assumption) ?_; conv => whnf) | (refine AB.ofF (by assumption) ?_; conv => whnf) | (refine ACall.pure sp rfl ?_; conv => whnf) | (exact trivial) | (refine And.intro rfl ?_; conv => whnf) | (refine AB.mk (fun h => ?_) (fun h => ?_) <;> (conv => whnf)) | (with_reducible_and_instances rfl) | (exact (rfl : AP.tup _ = AP.tup _)))
    refine' AWP.draw av_ok 7 [[], [], [1], [1, 2], [2, 1, 3, 0], [0, 3, 1, 2, 4], [], [4, 2, 1, 3, 0, 5, 6]] [(_, _), (_, _), (_, _), (_, _), (_, _), (_, _), (_, _)] ?hD ?hok ?hl ?hf ?hno ?ht; (case hD => kernel_rfl); (case hok => kernel_rfl); (case hl => rfl); (case hf => (conv => whnf); repeat' (first | (refine ⟨rfl, rfl⟩) | exact trivial | (refine AFCall.mk ⟨_, _, sl32Kinds_p, .inl rfl, ?_⟩; conv => whnf) | (refine AFCall.mk ⟨_, _, kp, .inl rfl, ?_⟩; conv => whnf) | (refine AIx.at 0 _ rfl rfl ?_; conv => whnf) | (refine And.intro ?_ ?_ <;> conv => whnf))); (case hno => rfl); (case ht => (conv => whnf); repeat' (first | (refine AWP.seq ?_) | (refine AWP.region av_ok ?_; conv => whnf) | (refine AWP.ret ?_; conv => whnf) | (refine AWP.skip ?_; conv => whnf) | (refine AWP.exit ?_; conv => whnf) | (refine AWP.block ?_; conv => whnf) | (refine AWP.cond ?_; conv => whnf) | (refine AB.tt ?_; conv => whnf) | (refine AB.ff ?_; conv => whnf) | (refine AB.ofT (by assumption) ?_; conv => whnf) | (refine AB.ofF (by assumption) ?_; conv => whnf) | (exact trivial) | (refine And.intro rfl ?_; conv => whnf) | (refine AB.mk (fun h => ?_) (fun h => ?_) <;> (conv => whnf)) | (with_reducible_and_instances rfl) | (exact (rfl : AP.tup _ = AP.tup _))))
end Go.Proofs.YtlhanpkfnhnegaaDoor
/- TextStep: the plain law. -/
namespace Go.Proofs.YtlhanpkfnhnegaaDoor
open Go.RowKit

/-- What the program reads of a step. -/
noncomputable def scStep (w0 : List UInt8) (s : Sc) : DStep × Sc :=
  if implKind w0 = 5 then (if (scNode s).2.ws = [] then (⟨5, (scNode s).1, 0, 0, []⟩, (scNode s).2) else (⟨5, (scNode s).1, 0, 0, fatesOf (scNode s).2.cur⟩, scFates (scNode s).2))
  else (⟨implKind w0, (stRead (implKind w0) s).a, (stRead (implKind w0) s).b, (stRead (implKind w0) s).c, []⟩, (stRead (implKind w0) s).s)
noncomputable def iTextStepL (l : List UInt8) : DStep × Bool :=
  if (scStep (Sc.start l).cur (Sc.start l).next).2.over && stepOk (scStep (Sc.start l).cur (Sc.start l).next).1 then ((scStep (Sc.start l).cur (Sc.start l).next).1, true) else (stpZ, false)

theorem rd_num {s : Sc} {x : Int} {r : List (List UInt8)} (hb : s.bad = false) (hw : s.ws = Lib.itoa x :: r) (h0 : 0 ≤ x ∧ x ≤ 1000000000) : (scNum s).1 = x ∧ (scNum s).2.bad = false ∧ (scNum s).2.ws = r := by
  have h := scNum_good hw (numOf_itoa9 h0.1 h0.2)
  refine ⟨by rw [h.1]; omega, by rw [h.2, hb], by rw [scNum_ws, hw]; rfl⟩
theorem rd_node {s : Sc} {x : Int} {r : List (List UInt8)} (hb : s.bad = false) (hw : s.ws = nodeWordL x :: r) (h0 : 0 ≤ x ∧ x ≤ 5) : (scNode s).1 = x ∧ (scNode s).2.bad = false ∧ (scNode s).2.ws = r := by
  have hn := (nodeWord_facts h0).1
  have h := scNode_good hw (by rw [hn]; exact h0.1)
  refine ⟨by rw [h.1, hn], by rw [h.2, hb], by rw [scNode_ws, hw]; rfl⟩
theorem num_rd {s : Sc} (h : (scNum s).2.bad = false) : s.bad = false ∧ s.ws = Lib.itoa (scNum s).1 :: (scNum s).2.ws := by
  obtain ⟨hb, w, r, v, hw, hv⟩ := scNum_bad h
  have g := scNum_good hw hv
  refine ⟨hb, ?_⟩
  rw [scNum_ws, g.1, hw, itoa_nat, ← (numOf_iff.1 hv).1]; rfl
theorem node_rd {s : Sc} (h : (scNode s).2.bad = false) : s.bad = false ∧ s.ws = nodeWordL (scNode s).1 :: (scNode s).2.ws := by
  obtain ⟨hb, w, r, hw, hv⟩ := scNode_bad h
  have g := scNode_good hw hv
  refine ⟨hb, ?_⟩
  rw [scNode_ws, g.1, hw, nodeIx_word hv]; rfl
theorem fateL_of (w : List UInt8) : fateL (w.map fun b => (b.toNat : Int) - 48) = w := by
  unfold fateL
  rw [List.map_map]
  conv => rhs; rw [← List.map_id w]
  refine List.map_congr_left fun b _ => ?_
  simp only [Function.comp, id]
  rw [show (48 + ((b.toNat : Int) - 48)).toNat = b.toNat by omega]
  exact UInt8.ofNat_toNat
theorem fates_mem {f : List Int} (h : fatesB f = true) : f.length ≤ 120 ∧ ∀ x ∈ f, 0 ≤ x ∧ x ≤ 2 := by
  simp only [fatesB, Bool.and_eq_true, decide_eq_true_eq, List.all_eq_true] at h
  exact ⟨h.1, fun x hx => by have := h.2 x hx; simpa [betweenB_iff] using this⟩
theorem of_fateL {f : List Int} (h : fatesB f = true) : (fateL f).map (fun b => (b.toNat : Int) - 48) = f := by
  unfold fateL
  rw [List.map_map]
  conv => rhs; rw [← List.map_id f]
  refine List.map_congr_left fun x hx => ?_
  have := (fates_mem h).2 x hx
  have : x = 0 ∨ x = 1 ∨ x = 2 := by omega
  rcases this with rfl | rfl | rfl <;> decide
theorem fateL_no {f : List Int} (h : fatesB f = true) : (32 : UInt8) ∉ fateL f := by
  intro hm
  obtain ⟨x, hx, he⟩ := List.mem_map.1 hm
  have := (fates_mem h).2 x hx
  have : x = 0 ∨ x = 1 ∨ x = 2 := by omega
  rcases this with rfl | rfl | rfl <;> exact absurd he (by decide)
theorem kindL_no {k : Int} (h : 1 ≤ k ∧ k ≤ 11) : (32 : UInt8) ∉ kindL k := by
  rcases kind_cases h.1 h.2 with rfl | rfl | rfl | rfl | rfl | rfl | rfl | rfl | rfl | rfl | rfl <;> decide
/-- The forms of good steps. -/
inductive StepF : DStep → Prop
  | num (k a : Int) (hk : k = 1 ∨ k = 7 ∨ k = 8) (ha : 0 ≤ a ∧ a ≤ 1000000000) : StepF ⟨k, a, 0, 0, []⟩
  | node (k a : Int) (hk : k = 2 ∨ k = 6) (ha : 0 ≤ a ∧ a ≤ 5) : StepF ⟨k, a, 0, 0, []⟩
  | time (k a b : Int) (hk : k = 3 ∨ k = 4) (ha : 0 ≤ a ∧ a ≤ 5) (hb : 0 ≤ b ∧ b ≤ 1000000000) : StepF ⟨k, a, b, 0, []⟩
  | cut (k a b : Int) (hk : k = 9 ∨ k = 10) (ha : 0 ≤ a ∧ a ≤ 5) (hb : 0 ≤ b ∧ b ≤ 5) : StepF ⟨k, a, b, 0, []⟩
  | rot (a b c : Int) (ha : 0 ≤ a ∧ a ≤ 1000000000) (hb : 0 ≤ b ∧ b ≤ 1000000000) (hc : 0 ≤ c ∧ c ≤ 1000000000) : StepF ⟨11, a, b, c, []⟩
  | fall (a : Int) (f : List Int) (ha : 0 ≤ a ∧ a ≤ 5) (hf : fatesB f = true) : StepF ⟨5, a, 0, 0, f⟩
theorem stepF_of {x : DStep} (h : stepOk x = true) : StepF x := by
  have hF := stepOk_facts h
  obtain ⟨k, a, b, c, f⟩ := x
  simp only at hF
  have hc : k ≠ 11 → c = 0 := by
    intro hk
    have h2 := h
    simp only [stepOk, stepNums, Bool.and_eq_true, Bool.not_eq_true', Bool.and_eq_false_iff, decide_eq_false_iff_not] at h2
    have h3 := h2.1.2
    rcases h3 with h3 | h3
    · omega
    · simp [hk] at h3
  have hs : stepKind ⟨k, a, b, c, f⟩ = true := by
    simp only [stepOk, Bool.and_eq_true] at h
    exact h.2
  clear h
  obtain ⟨hk, ha, hb, hcc, hf, hf5⟩ := hF
  rcases kind_cases hk.1 hk.2 with rfl | rfl | rfl | rfl | rfl | rfl | rfl | rfl | rfl | rfl | rfl
  all_goals simp [stepKind, betweenB_iff] at hs
  all_goals simp at hc hf5
  all_goals subst_vars
  · exact .num 1 a (.inl rfl) ha
  · obtain rfl : b = 0 := by omega
    exact .node 2 a (.inl rfl) (by omega)
  · exact .time 3 a b (.inl rfl) (by omega) hb
  · exact .time 4 a b (.inr rfl) (by omega) hb
  · obtain rfl : b = 0 := by omega
    exact .fall a f (by omega) hf
  · obtain rfl : b = 0 := by omega
    exact .node 6 a (.inr rfl) (by omega)
  · exact .num 7 a (.inr (.inl rfl)) ha
  · exact .num 8 a (.inr (.inr rfl)) ha
  · exact .cut 9 a b (.inl rfl) (by omega) (by omega)
  · exact .cut 10 a b (.inr rfl) (by omega) (by omega)
  · exact .rot a b c ha hb hcc
end Go.Proofs.YtlhanpkfnhnegaaDoor
/- TextStep: what the program reads is what the reference reads. -/
namespace Go.Proofs.YtlhanpkfnhnegaaDoor
open Go.RowKit

theorem scStep_zero {w0 : List UInt8} (hk : implKind w0 = 0) (s : Sc) : scStep w0 s = (⟨0, 0, 0, 0, []⟩, s) := by
  unfold scStep; rw [hk]; simp [stRead]
theorem scStep_num {w0 : List UInt8} {k : Int} (hk : implKind w0 = k) (h : k = 1 ∨ k = 7 ∨ k = 8) (s : Sc) : scStep w0 s = (⟨k, (scNum s).1, 0, 0, []⟩, (scNum s).2) := by
  unfold scStep; rw [hk]; rcases h with rfl | rfl | rfl <;> simp [stRead, rNum]
theorem scStep_node {w0 : List UInt8} {k : Int} (hk : implKind w0 = k) (h : k = 2 ∨ k = 6) (s : Sc) : scStep w0 s = (⟨k, (scNode s).1, 0, 0, []⟩, (scNode s).2) := by
  unfold scStep; rw [hk]; rcases h with rfl | rfl <;> simp [stRead, rNode]
theorem scStep_time {w0 : List UInt8} {k : Int} (hk : implKind w0 = k) (h : k = 3 ∨ k = 4) (s : Sc) : scStep w0 s = (⟨k, (scNode s).1, (scNum (scNode s).2).1, 0, []⟩, (scNum (scNode s).2).2) := by
  unfold scStep; rw [hk]; rcases h with rfl | rfl <;> simp [stRead, rNodeNum]
theorem scStep_cut {w0 : List UInt8} {k : Int} (hk : implKind w0 = k) (h : k = 9 ∨ k = 10) (s : Sc) : scStep w0 s = (⟨k, (scNode s).1, (scNode (scNode s).2).1, 0, []⟩, (scNode (scNode s).2).2) := by
  unfold scStep; rw [hk]; rcases h with rfl | rfl <;> simp [stRead, rNodeNode]
theorem scStep_rot {w0 : List UInt8} (hk : implKind w0 = 11) (s : Sc) : scStep w0 s = (⟨11, (scNum s).1, (scNum (scNum s).2).1, (scNum (scNum (scNum s).2).2).1, []⟩, (scNum (scNum (scNum s).2).2).2) := by
  unfold scStep; rw [hk]; simp [stRead, rNum3]
theorem scStep_fall {w0 : List UInt8} (hk : implKind w0 = 5) (s : Sc) : scStep w0 s = if (scNode s).2.ws = [] then (⟨5, (scNode s).1, 0, 0, []⟩, (scNode s).2) else (⟨5, (scNode s).1, 0, 0, fatesOf (scNode s).2.cur⟩, scFates (scNode s).2) := by
  unfold scStep; rw [hk]; simp
theorem sw_num {k : Int} (a : Int) (h : k = 1 ∨ k = 7 ∨ k = 8) : stepWords ⟨k, a, 0, 0, []⟩ = [kindL k, Lib.itoa a] := by
  rcases h with rfl | rfl | rfl <;> simp [stepWords]
theorem sw_node {k : Int} (a : Int) (h : k = 2 ∨ k = 6) : stepWords ⟨k, a, 0, 0, []⟩ = [kindL k, nodeWordL a] := by
  rcases h with rfl | rfl <;> simp [stepWords]
theorem sw_time {k : Int} (a b : Int) (h : k = 3 ∨ k = 4) : stepWords ⟨k, a, b, 0, []⟩ = [kindL k, nodeWordL a, Lib.itoa b] := by
  rcases h with rfl | rfl <;> simp [stepWords]
theorem sw_cut {k : Int} (a b : Int) (h : k = 9 ∨ k = 10) : stepWords ⟨k, a, b, 0, []⟩ = [kindL k, nodeWordL a, nodeWordL b] := by
  rcases h with rfl | rfl <;> simp [stepWords]
theorem sw_rot (a b c : Int) : stepWords ⟨11, a, b, c, []⟩ = [kindL 11, Lib.itoa a, Lib.itoa b, Lib.itoa c] := by simp [stepWords]
theorem sw_fall (a : Int) (f : List Int) : stepWords ⟨5, a, 0, 0, f⟩ = kindL 5 :: nodeWordL a :: (if f = [] then [] else [fateL f]) := by simp [stepWords]
theorem start_next {l w0 : List UInt8} {r : List (List UInt8)} (hw : wordsL 32 l = w0 :: r) : (Sc.start l).cur = w0 ∧ (Sc.start l).next.bad = false ∧ (Sc.start l).next.ws = r := by
  unfold Sc.start; rw [hw]; exact ⟨rfl, rfl, rfl⟩
theorem implKind_word {k : Int} (h : 1 ≤ k ∧ k ≤ 11) : implKind (kindL k) = k := by
  have := (stIx_word h).2 rfl
  unfold implKind; rw [this, if_neg (by omega)]
theorem word_implKind {w : List UInt8} {k : Int} (hk : implKind w = k) (h : 1 ≤ k) : kindL k = w := by
  have hr := stIx_range w
  unfold implKind at hk
  split at hk
  · omega
  · exact (stIx_word ⟨h, by omega⟩).1 hk
theorem fin_yes {y : DStep × Sc} {x : DStep} (h1 : y.1 = x) (hb : y.2.bad = false) (hw : y.2.ws = []) (hok : stepOk x = true) : (if y.2.over && stepOk y.1 then (y.1, true) else (stpZ, false)) = (x, true) := by
  rw [h1, hok]; simp [Sc.over, hb, hw]
theorem fatesOf_fateL {f : List Int} (h : fatesB f = true) : fatesOf (fateL f) = f := by
  have hl : (fateL f).length ≤ 121 := by rw [fateL_len]; have := (fates_mem h).1; omega
  unfold fatesOf
  rw [List.take_of_length_le hl, of_fateL h]
theorem next_of {s : Sc} {w : List UInt8} {r : List (List UInt8)} (hw : s.ws = w :: r) : s.next.bad = s.bad ∧ s.next.ws = r := by
  unfold Sc.next; rw [hw]; exact ⟨rfl, rfl⟩
theorem iStep_complete {x : DStep} {l : List UInt8} (h : stepOk x = true) (hw : wordsL 32 l = stepWords x) : iTextStepL l = (x, true) := by
  have hF := stepF_of h
  unfold iTextStepL
  cases hF with
  | num k a hk ha =>
    rw [sw_num a hk] at hw
    obtain ⟨h1, h2, h3⟩ := start_next hw
    have r1 := rd_num h2 h3 ha
    rw [h1, scStep_num (implKind_word (by omega)) hk]
    exact fin_yes (by rw [r1.1]) r1.2.1 r1.2.2 h
  | node k a hk ha =>
    rw [sw_node a hk] at hw
    obtain ⟨h1, h2, h3⟩ := start_next hw
    have r1 := rd_node h2 h3 ha
    rw [h1, scStep_node (implKind_word (by omega)) hk]
    exact fin_yes (by rw [r1.1]) r1.2.1 r1.2.2 h
  | time k a b hk ha hb =>
    rw [sw_time a b hk] at hw
    obtain ⟨h1, h2, h3⟩ := start_next hw
    have r1 := rd_node h2 h3 ha
    have r2 := rd_num r1.2.1 r1.2.2 hb
    rw [h1, scStep_time (implKind_word (by omega)) hk]
    exact fin_yes (by rw [r1.1, r2.1]) r2.2.1 r2.2.2 h
  | cut k a b hk ha hb =>
    rw [sw_cut a b hk] at hw
    obtain ⟨h1, h2, h3⟩ := start_next hw
    have r1 := rd_node h2 h3 ha
    have r2 := rd_node r1.2.1 r1.2.2 hb
    rw [h1, scStep_cut (implKind_word (by omega)) hk]
    exact fin_yes (by rw [r1.1, r2.1]) r2.2.1 r2.2.2 h
  | rot a b c ha hb hc =>
    rw [sw_rot a b c] at hw
    obtain ⟨h1, h2, h3⟩ := start_next hw
    have r1 := rd_num h2 h3 ha
    have r2 := rd_num r1.2.1 r1.2.2 hb
    have r3 := rd_num r2.2.1 r2.2.2 hc
    rw [h1, scStep_rot (implKind_word (by omega))]
    exact fin_yes (by rw [r1.1, r2.1, r3.1]) r3.2.1 r3.2.2 h
  | fall a f ha hf =>
    rw [sw_fall a f] at hw
    obtain ⟨h1, h2, h3⟩ := start_next hw
    have r1 := rd_node h2 h3 ha
    rw [h1, scStep_fall (implKind_word (by omega))]
    by_cases hfn : f = []
    · subst hfn
      rw [if_pos rfl] at r1
      rw [if_pos r1.2.2]
      exact fin_yes (by rw [r1.1]) r1.2.1 r1.2.2 h
    · rw [if_neg hfn] at r1
      have hcur : (scNode (Sc.start l).next).2.cur = fateL f := by unfold Sc.cur; rw [r1.2.2]; rfl
      have hne : fateL f ≠ [] := by
        intro e
        have := fateL_len f
        rw [e] at this
        exact hfn (List.eq_nil_of_length_eq_zero this.symm)
      rw [if_neg (show ¬ (scNode (Sc.start l).next).2.ws = [] by rw [r1.2.2]; simp)]
      refine fin_yes (y := (⟨5, (scNode (Sc.start l).next).1, 0, 0, fatesOf (scNode (Sc.start l).next).2.cur⟩, scFates (scNode (Sc.start l).next).2)) (by rw [r1.1, hcur, fatesOf_fateL hf]) ?_ ?_ h
      · show (scFates (scNode (Sc.start l).next).2).bad = false
        unfold scFates
        rw [hcur, if_neg hne]
        exact (next_of r1.2.2).1.trans r1.2.1
      · show (scFates (scNode (Sc.start l).next).2).ws = []
        unfold scFates
        rw [hcur, if_neg hne]
        exact (next_of r1.2.2).2
theorem over_of {s : Sc} (h : s.over = true) : s.bad = false ∧ s.ws = [] := by
  simp only [Sc.over, Bool.and_eq_true, Bool.not_eq_true', List.isEmpty_iff] at h
  exact ⟨h.2, h.1⟩
theorem iStep_sound {l : List UInt8} (h : (iTextStepL l).2 = true) : ∃ x, iTextStepL l = (x, true) ∧ stepOk x = true ∧ wordsL 32 l = stepWords x := by
  obtain ⟨w0, r, hw⟩ := wordsL_split (c := 32) (s := l)
  obtain ⟨h1, h2, h3⟩ := start_next hw
  unfold iTextStepL at h ⊢
  rw [h1] at h ⊢
  rw [hw]
  generalize (Sc.start l).next = s at *
  split at h
  · rename_i hc
    rw [if_pos hc]
    refine ⟨_, rfl, ?_⟩
    rw [Bool.and_eq_true] at hc
    obtain ⟨hov, hok⟩ := hc
    refine ⟨hok, ?_⟩
    obtain ⟨tb, tw⟩ := over_of hov
    clear hov h
    have hr := implKind_range w0
    generalize hk : implKind w0 = k at hr
    by_cases k0 : k = 0
    · subst k0
      rw [scStep_zero hk] at hok
      have hok : stepOk ⟨0, 0, 0, 0, []⟩ = true := hok
      exact absurd hok (by decide)
    have hkw := word_implKind hk (by omega)
    rcases kind_cases (k := k) (by omega) (by omega) with e | e | e | e | e | e | e | e | e | e | e
    case inl | inr.inr.inr.inr.inr.inr.inl | inr.inr.inr.inr.inr.inr.inr.inl =>
      rw [scStep_num hk (by omega)] at tb tw ⊢
      have g := num_rd tb
      rw [sw_num _ (by omega), hkw, ← h3, g.2, tw]
    case inr.inl | inr.inr.inr.inr.inr.inl =>
      rw [scStep_node hk (by omega)] at tb tw ⊢
      have g := node_rd tb
      rw [sw_node _ (by omega), hkw, ← h3, g.2, tw]
    case inr.inr.inl | inr.inr.inr.inl =>
      rw [scStep_time hk (by omega)] at tb tw ⊢
      have g := num_rd tb
      have g1 := node_rd g.1
      rw [sw_time _ _ (by omega), hkw, ← h3, g1.2, g.2, tw]
    case inr.inr.inr.inr.inr.inr.inr.inr.inl | inr.inr.inr.inr.inr.inr.inr.inr.inr.inl =>
      rw [scStep_cut hk (by omega)] at tb tw ⊢
      have g := node_rd tb
      have g1 := node_rd g.1
      rw [sw_cut _ _ (by omega), hkw, ← h3, g1.2, g.2, tw]
    case inr.inr.inr.inr.inr.inr.inr.inr.inr.inr =>
      subst e
      rw [scStep_rot hk] at tb tw ⊢
      have g := num_rd tb
      have g1 := num_rd g.1
      have g2 := num_rd g1.1
      rw [sw_rot, hkw, ← h3, g2.2, g1.2, g.2, tw]
    case inr.inr.inr.inr.inl =>
      subst e
      rw [scStep_fall hk] at tb tw hok ⊢
      split at tb
      · rename_i hn
        rw [if_pos hn]
        have g := node_rd tb
        rw [sw_fall, if_pos rfl, hkw, ← h3, g.2, hn]
      · rename_i hn
        rw [if_neg hn] at tw hok ⊢
        simp only at tb tw hok ⊢
        obtain ⟨ws1, b1, a1⟩ : ∃ ws1 b1 a1, (scNode s).2 = ⟨ws1, b1, a1⟩ := ⟨_, _, _, rfl⟩
        obtain ⟨a1, e2⟩ := a1
        cases ws1 with
        | nil => exact absurd (by rw [e2]) hn
        | cons v ws1 =>
          have hcur : (scNode s).2.cur = v := by rw [e2]; rfl
          have hv : v ≠ [] := by
            rintro rfl
            rw [scFates, if_pos hcur] at tb
            cases tb
          rw [scFates, if_neg (by rw [hcur]; exact hv), e2] at tb tw
          have hb1 : b1 = false := tb
          have hw1 : ws1 = [] := tw
          have g := node_rd (s := s) (by rw [e2]; exact hb1)
          have hfl := (fates_mem (stepOk_facts hok).2.2.2.2.1).1
          have hlen : v.length ≤ 121 := by
            simp only [hcur, fatesOf, List.length_map, List.length_take] at hfl
            omega
          have hfo : fatesOf v = v.map fun b => (b.toNat : Int) - 48 := by unfold fatesOf; rw [List.take_of_length_le hlen]
          rw [hcur, hfo, sw_fall, if_neg (by simpa using hv), fateL_of, hkw, ← h3, g.2, e2, hw1]
  · cases h
end Go.Proofs.YtlhanpkfnhnegaaDoor
/- TextStep: the reference's side, and that both are one. -/
namespace Go.Proofs.YtlhanpkfnhnegaaDoor
open Go.RowKit

theorem stepWords_no {x : DStep} (h : stepOk x = true) : ∀ w ∈ stepWords x, (32 : UInt8) ∉ w := by
  have hF := stepF_of h
  cases hF with
  | num k a hk ha =>
    rw [sw_num a hk]
    intro w hw
    simp only [List.mem_cons, List.not_mem_nil, or_false] at hw
    rcases hw with rfl | rfl
    · exact kindL_no (by omega)
    · exact no32_itoa ha.1
  | node k a hk ha =>
    rw [sw_node a hk]
    intro w hw
    simp only [List.mem_cons, List.not_mem_nil, or_false] at hw
    rcases hw with rfl | rfl
    · exact kindL_no (by omega)
    · exact (nodeWord_facts ha).2.1
  | time k a b hk ha hb =>
    rw [sw_time a b hk]
    intro w hw
    simp only [List.mem_cons, List.not_mem_nil, or_false] at hw
    rcases hw with rfl | rfl | rfl
    · exact kindL_no (by omega)
    · exact (nodeWord_facts ha).2.1
    · exact no32_itoa hb.1
  | cut k a b hk ha hb =>
    rw [sw_cut a b hk]
    intro w hw
    simp only [List.mem_cons, List.not_mem_nil, or_false] at hw
    rcases hw with rfl | rfl | rfl
    · exact kindL_no (by omega)
    · exact (nodeWord_facts ha).2.1
    · exact (nodeWord_facts hb).2.1
  | rot a b c ha hb hc =>
    rw [sw_rot a b c]
    intro w hw
    simp only [List.mem_cons, List.not_mem_nil, or_false] at hw
    rcases hw with rfl | rfl | rfl | rfl
    · exact kindL_no (by omega)
    · exact no32_itoa ha.1
    · exact no32_itoa hb.1
    · exact no32_itoa hc.1
  | fall a f ha hf =>
    rw [sw_fall a f]
    intro w hw
    split at hw
    · simp only [List.mem_cons, List.not_mem_nil, or_false] at hw
      rcases hw with rfl | rfl
      · exact kindL_no (by omega)
      · exact (nodeWord_facts ha).2.1
    · simp only [List.mem_cons, List.not_mem_nil, or_false] at hw
      rcases hw with rfl | rfl | rfl
      · exact kindL_no (by omega)
      · exact (nodeWord_facts ha).2.1
      · exact fateL_no hf
theorem kindL_len {k : Int} (h : 1 ≤ k ∧ k ≤ 11) : (kindL k).length ≤ 5 := by
  rcases kind_cases h.1 h.2 with rfl | rfl | rfl | rfl | rfl | rfl | rfl | rfl | rfl | rfl | rfl <;> decide
theorem itoa10 {x : Int} (h : 0 ≤ x ∧ x ≤ 1000000000) : (Lib.itoa x).length ≤ 10 := itoa_len h.1 (by omega) (by omega)
theorem stepWords_160 {x : DStep} (h : stepOk x = true) : (joinL 32 (stepWords x)).length ≤ 160 := by
  have hF := stepF_of h
  cases hF with
  | num k a hk ha =>
    rw [sw_num a hk]
    have a1 := kindL_len (k := k) (by omega)
    have a2 := itoa10 ha
    simp only [joinL, List.length_append, List.length_cons]
    omega
  | node k a hk ha =>
    rw [sw_node a hk]
    have a1 := kindL_len (k := k) (by omega)
    have a2 := (nodeWord_facts ha).2.2
    simp only [joinL, List.length_append, List.length_cons]
    omega
  | time k a b hk ha hb =>
    rw [sw_time a b hk]
    have a1 := kindL_len (k := k) (by omega)
    have a2 := (nodeWord_facts ha).2.2
    have a3 := itoa10 hb
    simp only [joinL, List.length_append, List.length_cons]
    omega
  | cut k a b hk ha hb =>
    rw [sw_cut a b hk]
    have a1 := kindL_len (k := k) (by omega)
    have a2 := (nodeWord_facts ha).2.2
    have a3 := (nodeWord_facts hb).2.2
    simp only [joinL, List.length_append, List.length_cons]
    omega
  | rot a b c ha hb hc =>
    rw [sw_rot a b c]
    have a1 := kindL_len (k := 11) (by omega)
    have a2 := itoa10 ha
    have a3 := itoa10 hb
    have a4 := itoa10 hc
    simp only [joinL, List.length_append, List.length_cons]
    omega
  | fall a f ha hf =>
    rw [sw_fall a f]
    have a1 := kindL_len (k := 5) (by omega)
    have a2 := (nodeWord_facts ha).2.2
    have a3 := fateL_len f
    have a4 := (fates_mem hf).1
    split
    · simp only [joinL, List.length_append, List.length_cons]
      omega
    · simp only [joinL, List.length_append, List.length_cons]
      omega
theorem numN_itoa {x : Int} (h : 0 ≤ x ∧ x ≤ 1000000000) : numN (Lib.itoa x) = x := by
  rw [numN_yes (numOf_itoa9 h.1 h.2)]; omega
theorem sStepOf_words {x : DStep} (h : stepOk x = true) : stIx ((stepWords x).getD 0 []) = x.kind ∧ 1 ≤ x.kind ∧ ¬ (stepWords x).length < 2 ∧ sStepOf x.kind (stepWords x) = x := by
  have hF := stepF_of h
  cases hF with
  | num k a hk ha =>
    rw [sw_num a hk]
    refine ⟨(stIx_word (k := k) (by omega)).2 rfl, show 1 ≤ k by omega, by simp, ?_⟩
    rcases hk with rfl | rfl | rfl <;> simp [sStepOf, stA, stB, stC, stF, numN_itoa ha]
  | node k a hk ha =>
    rw [sw_node a hk]
    refine ⟨(stIx_word (k := k) (by omega)).2 rfl, show 1 ≤ k by omega, by simp, ?_⟩
    rcases hk with rfl | rfl <;> simp [sStepOf, stA, stB, stC, stF, (nodeWord_facts ha).1]
  | time k a b hk ha hb =>
    rw [sw_time a b hk]
    refine ⟨(stIx_word (k := k) (by omega)).2 rfl, show 1 ≤ k by omega, by simp, ?_⟩
    rcases hk with rfl | rfl <;> simp [sStepOf, stA, stB, stC, stF, atN, numN_itoa hb, (nodeWord_facts ha).1]
  | cut k a b hk ha hb =>
    rw [sw_cut a b hk]
    refine ⟨(stIx_word (k := k) (by omega)).2 rfl, show 1 ≤ k by omega, by simp, ?_⟩
    rcases hk with rfl | rfl <;> simp [sStepOf, stA, stB, stC, stF, (nodeWord_facts hb).1, (nodeWord_facts ha).1]
  | rot a b c ha hb hc =>
    rw [sw_rot a b c]
    refine ⟨(stIx_word (k := 11) (by omega)).2 rfl, show (1 : Int) ≤ 11 by omega, by simp, ?_⟩
    simp [sStepOf, stA, stB, stC, stF, atN, numN_itoa ha, numN_itoa hb, numN_itoa hc]
  | fall a f ha hf =>
    rw [sw_fall a f]
    refine ⟨(stIx_word (k := 5) (by omega)).2 rfl, show (1 : Int) ≤ 5 by omega, by split <;> simp, ?_⟩
    split
    · rename_i e; subst e; simp [sStepOf, stA, stB, stC, stF, (nodeWord_facts ha).1]
    · simp only [sStepOf, stA, stB, stC, stF]
      simp [(nodeWord_facts ha).1]
      exact of_fateL hf
theorem stepTextL_join {x : DStep} (h : stepOk x = true) : stepTextL x = joinL 32 (stepWords x) := by
  unfold stepTextL; rw [if_pos h, wordsB_join]
theorem stepWords_ne (x : DStep) : stepWords x ≠ [] := by simp [stepWords]
theorem sStep_complete {x : DStep} {l : List UInt8} (h : stepOk x = true) (hw : wordsL 32 l = stepWords x) : sTextStepL l = (x, true) := by
  have hj : joinL 32 (stepWords x) = l := by rw [← hw]; exact join_words 32 l
  have h160 := stepWords_160 h
  rw [hj] at h160
  obtain ⟨h1, h2, h3, h4⟩ := sStepOf_words h
  unfold sTextStepL
  rw [hw, h1, if_neg (by omega), if_neg (by omega), h4, if_pos (by rw [stepTextL_join h, hj])]
theorem sStep_sound {l : List UInt8} (h : (sTextStepL l).2 = true) : ∃ x, sTextStepL l = (x, true) ∧ stepOk x = true ∧ wordsL 32 l = stepWords x := by
  unfold sTextStepL at h ⊢
  split at h
  · cases h
  · rename_i c1
    rw [if_neg c1]
    split at h
    · cases h
    · rename_i c2
      rw [if_neg c2]
      split at h
      · rename_i c3
        rw [if_pos c3]
        refine ⟨_, rfl, ?_⟩
        generalize sStepOf (stIx ((wordsL 32 l).getD 0 [])) (wordsL 32 l) = x at c3
        cases hok : stepOk x with
        | false =>
          exfalso
          have e := stepTextL_empty.2 hok
          rw [c3] at e
          subst e
          exact c2 (.inr (by decide))
        | true =>
          refine ⟨rfl, ?_⟩
          rw [← c3, stepTextL_join hok, words_join (stepWords_ne x) (stepWords_no hok)]
      · cases h
theorem iStep_no {l : List UInt8} (h : ¬ (iTextStepL l).2 = true) : iTextStepL l = (stpZ, false) := by
  unfold iTextStepL at h ⊢
  split
  · rename_i c; rw [if_pos c] at h; exact absurd rfl h
  · rfl
theorem sStep_no {l : List UInt8} (h : ¬ (sTextStepL l).2 = true) : sTextStepL l = (stpZ, false) := by
  unfold sTextStepL at h ⊢
  split
  · rfl
  · rename_i c1
    rw [if_neg c1] at h
    split
    · rfl
    · rename_i c2
      rw [if_neg c2] at h
      split
      · rename_i c; rw [if_pos c] at h; exact absurd rfl h
      · rfl
theorem textStep_eq (l : List UInt8) : iTextStepL l = sTextStepL l := by
  by_cases hi : (iTextStepL l).2 = true
  · obtain ⟨x, e, ok, hw⟩ := iStep_sound hi
    rw [e, sStep_complete ok hw]
  · by_cases hs : (sTextStepL l).2 = true
    · obtain ⟨x, e, ok, hw⟩ := sStep_sound hs
      rw [e, iStep_complete ok hw]
    · rw [iStep_no hi, sStep_no hs]
end Go.Proofs.YtlhanpkfnhnegaaDoor
/- TextStep: the program's side whole. -/
namespace Go.Proofs.YtlhanpkfnhnegaaDoor
open Go.RowKit

def StepNil (l : List UInt8) (y : DStep × Bool) : Prop := y.1.fates = [] ∧ MCall av 49 [.one (.d (dL l))] [] [] [] (.tup [stAgg y.1.kind y.1.a y.1.b y.1.c .nil, .one (.d (dB y.2))])
def StepOwn (l : List UInt8) (y : DStep × Bool) : Prop := y.2 = true ∧ y.1.fates.length ≤ 120 ∧ MCall av 49 [.one (.d (dL l))] [] [(901, .row 2 1 (y.1.fates.map eI))] [] (.tup [stAgg y.1.kind y.1.a y.1.b y.1.c (.own 901), .one (.d (dB true))])
theorem step_nil_of {l : List UInt8} {k a b c : Int} {t : Sc} (e : scStep (Sc.start l).cur (Sc.start l).next = (⟨k, a, b, c, []⟩, t))
    (m : MCall av 49 [.one (.d (dL l))] [] [] [] (if t.over && stepOk ⟨k, a, b, c, []⟩ then .tup [stAgg k a b c .nil, .one (.d (dB true))] else .tup [stAgg 0 0 0 0 .nil, .one (.d (dB false))])) : StepNil l (iTextStepL l) ∨ StepOwn l (iTextStepL l) := by
  refine .inl ?_
  unfold iTextStepL
  rw [e]
  simp only
  split
  · rename_i h; rw [if_pos h] at m; exact ⟨rfl, m⟩
  · rename_i h; rw [if_neg h] at m; exact ⟨rfl, m⟩
theorem step_own_of {l : List UInt8} {k a b c : Int} {f : List Int} {t : Sc} (e : scStep (Sc.start l).cur (Sc.start l).next = (⟨k, a, b, c, f⟩, t))
    (m : (t.over = true → stepOk ⟨k, a, b, c, f⟩ = true → MCall av 49 [.one (.d (dL l))] [] [(901, .row 2 1 (f.map eI))] [] (.tup [stAgg k a b c (.own 901), .one (.d (dB true))])) ∧
    ((t.over && stepOk ⟨k, a, b, c, f⟩) = false → MCall av 49 [.one (.d (dL l))] [] [] [] (.tup [stAgg 0 0 0 0 .nil, .one (.d (dB false))]))) : StepNil l (iTextStepL l) ∨ StepOwn l (iTextStepL l) := by
  unfold iTextStepL
  rw [e]
  simp only
  split
  · rename_i h
    rw [Bool.and_eq_true] at h
    exact .inr ⟨rfl, (fates_mem (stepOk_facts h.2).2.2.2.2.1).1, m.1 h.1 h.2⟩
  · rename_i h
    exact .inl ⟨rfl, m.2 (by simpa using h)⟩
theorem scStep_plain {w0 : List UInt8} {k : Int} (hk : implKind w0 = k) (h : k ≠ 5) (s : Sc) : scStep w0 s = (⟨k, (stRead k s).a, (stRead k s).b, (stRead k s).c, []⟩, (stRead k s).s) := by
  unfold scStep; rw [hk, if_neg h]
theorem iTextStep_m (l : List UInt8) (hl : l.length ≤ 2000000) : StepNil l (iTextStepL l) ∨ StepOwn l (iTextStepL l) := by
  have h0 := start_ok hl
  have hr := implKind_range (Sc.start l).cur
  generalize hk : implKind (Sc.start l).cur = k at hr
  by_cases k0 : k = 0
  · subst k0
    have sm := step_m0 _ h0 hk
    rw [start_o] at sm
    exact step_nil_of (scStep_plain hk (by omega) _) (textStep_nil l _ _ _ _ _ sm)
  rcases kind_cases (k := k) (by omega) (by omega) with rfl | rfl | rfl | rfl | rfl | rfl | rfl | rfl | rfl | rfl | rfl
  case inr.inr.inr.inr.inl =>
    by_cases hd : (scNode (Sc.start l).next).2.ws = []
    · have sm := step_m5a _ h0 hk hd
      rw [start_o] at sm
      exact step_nil_of (by rw [scStep_fall hk, if_pos hd]) (textStep_nil l _ _ _ _ _ sm)
    · have sm := step_m5b _ h0 hk hd
      rw [start_o] at sm
      exact step_own_of (by rw [scStep_fall hk, if_neg hd]) (textStep_own l _ _ _ _ _ _ sm)
  · have sm := step_m1 _ h0 hk
    rw [start_o] at sm
    exact step_nil_of (scStep_plain hk (by omega) _) (textStep_nil l _ _ _ _ _ sm)
  · have sm := step_m2 _ h0 hk
    rw [start_o] at sm
    exact step_nil_of (scStep_plain hk (by omega) _) (textStep_nil l _ _ _ _ _ sm)
  · have sm := step_m3 _ h0 hk
    rw [start_o] at sm
    exact step_nil_of (scStep_plain hk (by omega) _) (textStep_nil l _ _ _ _ _ sm)
  · have sm := step_m4 _ h0 hk
    rw [start_o] at sm
    exact step_nil_of (scStep_plain hk (by omega) _) (textStep_nil l _ _ _ _ _ sm)
  · have sm := step_m6 _ h0 hk
    rw [start_o] at sm
    exact step_nil_of (scStep_plain hk (by omega) _) (textStep_nil l _ _ _ _ _ sm)
  · have sm := step_m7 _ h0 hk
    rw [start_o] at sm
    exact step_nil_of (scStep_plain hk (by omega) _) (textStep_nil l _ _ _ _ _ sm)
  · have sm := step_m8 _ h0 hk
    rw [start_o] at sm
    exact step_nil_of (scStep_plain hk (by omega) _) (textStep_nil l _ _ _ _ _ sm)
  · have sm := step_m9 _ h0 hk
    rw [start_o] at sm
    exact step_nil_of (scStep_plain hk (by omega) _) (textStep_nil l _ _ _ _ _ sm)
  · have sm := step_m10 _ h0 hk
    rw [start_o] at sm
    exact step_nil_of (scStep_plain hk (by omega) _) (textStep_nil l _ _ _ _ _ sm)
  · have sm := step_m11 _ h0 hk
    rw [start_o] at sm
    exact step_nil_of (scStep_plain hk (by omega) _) (textStep_nil l _ _ _ _ _ sm)
end Go.Proofs.YtlhanpkfnhnegaaDoor
