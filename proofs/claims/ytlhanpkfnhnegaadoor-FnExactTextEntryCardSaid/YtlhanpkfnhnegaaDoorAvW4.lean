/- The scanner's numbers, nodes, operations. -/
import Derived.Test.YtlhanpkfnhnegaaDoorAvW3
import Derived.LoopN
set_option linter.unusedVariables false
set_option linter.unusedSimpArgs false
set_option maxRecDepth 100000
namespace Go.Proofs.YtlhanpkfnhnegaaDoor
open Go.RowKit

/-! A loop that ends after a known number of rounds is run round by round. -/
def AWPn (E : AEnv) (S : Base) (c : Code) (K : Exit → ASt → Prop) : Nat → ASt → Prop
  | 0, _ => False
  | n + 1, st => AWP E S c (fun e st' => match e with
    | .normal => AWPn E S c K n st'
    | e => K e st') st
theorem AWP.unroll {E : AEnv} {S : Base} {c : Code} {K : Exit → ASt → Prop} {st : ASt} (n : Nat) (h : AWPn E S c K n st) : AWP E S (.loop c) K st := by
  refine ⟨fun a w hs => wp_loop_rounds n ?_⟩
  have key : ∀ n st a w, AWPn E S c K n st → SimX E.W S st a w → Code.rounds E.P c (fun e a' w' => ∃ st', SimX E.W S st' a' w' ∧ K e st') n a w := by
    intro n
    induction n with
    | zero => intro st a w h _; exact h.elim
    | succ n ih =>
      intro st a w h hs
      refine wp_mono ((show AWP E S c _ st from h).run a w hs) fun e a' w' h' => ?_
      obtain ⟨st', hs', hk⟩ := h'
      cases e with
      | normal => exact ih st' a' w' hk hs'
      | _ => exact ⟨st', hs', hk⟩
  exact key n st a w h hs

/-- A number is read. (Hidden: what is compared with it must not be reckoned out.) -/
def scNum0 (s : Sc) : Int × Sc := if digB s.cur 10 then (numV s.cur, { s.next with bad := s.next.bad || decide ((numV s.cur : Int) > 1000000000) }) else (0, { s.next with bad := true })
theorem scNum_ex : ∃ f : Sc → Int × Sc, ∀ s, f s = scNum0 s := ⟨scNum0, fun _ => rfl⟩
noncomputable def scNum : Sc → Int × Sc := Classical.choose scNum_ex
theorem scNum_eq (s : Sc) : scNum s = scNum0 s := Classical.choose_spec scNum_ex s
theorem Sc.ok.num {s : Sc} (h : s.ok) : (scNum s).2.ok := by
  have := h.next
  rw [scNum_eq]
  unfold scNum0
  split <;> exact this
/-- The word of a node is read. -/
def scNode (s : Sc) : Int × Sc := (nodeIx s.cur, { s.next with bad := s.next.bad || decide (nodeIx s.cur < 0) })
theorem Sc.ok.node {s : Sc} (h : s.ok) : (scNode s).2.ok := h.next
theorem nodeIx_le (w : List UInt8) : -1 ≤ nodeIx w ∧ nodeIx w ≤ 5 := by
  have h := idxL_ge nodesL w
  refine ⟨h, ?_⟩
  unfold nodeIx nodesL
  simp only [idxL]
  repeat' split
  all_goals omega
theorem number_m (s : Sc) (hs : s.ok) : MCall av 105 [.one (.ref 1000 0 0 0)] [(1000, s.o)] [(1000, (scNum s).2.o)] [1000] (.val (.one (.d (dI (scNum s).1)))) := by
  have wm := word_m s hs
  have hd : ∀ h : digB s.cur 10 = true, (numV s.cur : Int) < 10000000000 := fun h => by have := numV_small h; omega
  have hcl := hs.cur
  obtain ⟨ws1, b1, a1⟩ : ∃ ws1 b1 a1, s.next = ⟨ws1, b1, a1⟩ := ⟨_, _, _, rfl⟩
  obtain ⟨a1, hs1⟩ := a1
  rw [hs1] at wm
  cases hdig : digB s.cur 10 with
  | false =>
    have e : scNum s = (0, ⟨ws1, true, a1⟩) := by rw [scNum_eq]; unfold scNum0; rw [hdig, hs1]; rfl
    have hn : (!digB s.cur 10) = true := by rw [hdig]; rfl
    rw [e]
    refine mcall_of av_ok Tryd.func105 rfl Tryd.call105 Tryd.ntmps105 (congrArg Array.toList Tryd.results105) rfl fun S pv => ?_; conv => whnf
    repeat' (first | (refine AWP.seq ?_) | (refine AWP.region av_ok ?_; conv => whnf) | (refine AWP.ret ?_; conv => whnf) | (refine AWP.skip ?_; conv => whnf) | (refine AWP.exit ?_; conv => whnf) | (refine AWP.block ?_; conv => whnf) | (refine AWP.cond ?_; conv => whnf) | (refine AB.tt ?_; conv => whnf) | (refine AB.ff ?_; conv => whnf) | (refine AB.ofT (by assumption) ?_; conv => whnf) | (refine AB.ofF (by assumption) ?_; conv => whnf) | (refine ACall.upd wm 1000 rfl rfl rfl ?_; conv => whnf) | (refine ACall.pure (idigits_p s.cur 10 hcl (by omega)) rfl ?_; conv => whnf) | (exact trivial) | (refine And.intro rfl ?_; conv => whnf) | (refine AB.mk (fun h => ?_) (fun h => ?_) <;> (conv => whnf)))
  | true =>
    have e : scNum s = ((numV s.cur : Int), (⟨ws1, b1 || decide ((numV s.cur : Int) > 1000000000), a1⟩ : Sc)) := by rw [scNum_eq]; unfold scNum0; rw [hdig, hs1]; rfl
    have hn : (!digB s.cur 10) = false := by rw [hdig]; rfl
    rw [e]
    cases b1
    all_goals
      refine mcall_of av_ok Tryd.func105 rfl Tryd.call105 Tryd.ntmps105 (congrArg Array.toList Tryd.results105) rfl fun S pv => ?_; conv => whnf
      repeat' (first | (refine AWP.seq ?_) | (refine AWP.region av_ok ?_; conv => whnf) | (refine AWP.ret ?_; conv => whnf) | (refine AWP.skip ?_; conv => whnf) | (refine AWP.exit ?_; conv => whnf) | (refine AWP.block ?_; conv => whnf) | (refine AWP.cond ?_; conv => whnf) | (refine AB.tt ?_; conv => whnf) | (refine AB.ff ?_; conv => whnf) | (refine AB.ofT (by assumption) ?_; conv => whnf) | (refine AB.ofF (by assumption) ?_; conv => whnf) | (refine ACall.upd wm 1000 rfl rfl rfl ?_; conv => whnf) | (refine ACall.pure (idigits_p s.cur 10 hcl (by omega)) rfl ?_; conv => whnf) | (refine ACall.pure (parseInt_p s.cur hdig) rfl ?_; conv => whnf) | (exact trivial) | (refine And.intro rfl ?_; conv => whnf) | (refine AB.mk (fun h => ?_) (fun h => ?_) <;> (conv => whnf)))
theorem node_m (s : Sc) (hs : s.ok) : MCall av 106 [.one (.ref 1000 0 0 0)] [(1000, s.o)] [(1000, (scNode s).2.o)] [1000] (.val (.one (.d (dI (scNode s).1)))) := by
  have wm := word_m s hs
  obtain ⟨ws1, b1, a1⟩ : ∃ ws1 b1 a1, s.next = ⟨ws1, b1, a1⟩ := ⟨_, _, _, rfl⟩
  obtain ⟨a1, hs1⟩ := a1
  rw [hs1] at wm
  have e : scNode s = (nodeIx s.cur, ⟨ws1, b1 || decide (nodeIx s.cur < 0), a1⟩) := by unfold scNode; rw [hs1]
  rw [e]
  cases b1
  all_goals
    refine mcall_of av_ok Tryd.func106 rfl Tryd.call106 Tryd.ntmps106 (congrArg Array.toList Tryd.results106) rfl fun S pv => ?_; conv => whnf
    repeat' (first | (refine AWP.seq ?_) | (refine AWP.region av_ok ?_; conv => whnf) | (refine AWP.ret ?_; conv => whnf) | (refine AWP.skip ?_; conv => whnf) | (refine AWP.exit ?_; conv => whnf) | (refine AWP.block ?_; conv => whnf) | (refine AWP.cond ?_; conv => whnf) | (refine AB.tt ?_; conv => whnf) | (refine AB.ff ?_; conv => whnf) | (refine AB.ofT (by assumption) ?_; conv => whnf) | (refine AB.ofF (by assumption) ?_; conv => whnf) | (refine ACall.upd wm 1000 rfl rfl rfl ?_; conv => whnf) | (refine ACall.pure (iNodeOf_p s.cur) rfl ?_; conv => whnf) | (exact trivial) | (refine And.intro rfl ?_; conv => whnf) | (refine AB.mk (fun h => ?_) (fun h => ?_) <;> (conv => whnf)))
theorem over_m (s : Sc) : MCall av 95 [.one (.ref 1000 0 0 0)] [(1000, s.o)] [(1000, s.o)] [1000] (.val (.one (.d (dB (s.ws.isEmpty && !s.bad))))) := by
  obtain ⟨ws, bad, at_⟩ := s
  cases h : ws.isEmpty
  all_goals
    simp only [Sc.o, h]
    refine mcall_of av_ok Tryd.func95 rfl Tryd.call95 Tryd.ntmps95 (congrArg Array.toList Tryd.results95) rfl fun S pv => ?_; conv => whnf
    repeat' (first | (refine AWP.seq ?_) | (refine AWP.region av_ok ?_; conv => whnf) | (refine AWP.ret ?_; conv => whnf) | (refine AWP.skip ?_; conv => whnf) | (refine AWP.exit ?_; conv => whnf) | (refine AWP.block ?_; conv => whnf) | (refine AWP.cond ?_; conv => whnf) | (refine AB.tt ?_; conv => whnf) | (refine AB.ff ?_; conv => whnf) | (refine AB.ofT (by assumption) ?_; conv => whnf) | (refine AB.ofF (by assumption) ?_; conv => whnf) | (exact trivial) | (refine And.intro rfl ?_; conv => whnf) | (refine AB.mk (fun h => ?_) (fun h => ?_) <;> (conv => whnf)))
theorem opOf_m (k a b c d : Int) : MCall av 139 [.one (.own 1001)] [(1001, .row 2 1 ([k, a, b, c, d].map eI))] [(1001, .row 2 1 ([k, a, b, c, d].map eI))] [] (.val (.agg [.d (dI k), .d (dI a), .d (dI b), .d (dI c), .d (dI d)])) := by
  refine mcall_of av_ok Tryd.func139 rfl Tryd.call139 Tryd.ntmps139 (congrArg Array.toList Tryd.results139) rfl fun S pv => ?_; conv => whnf
  repeat' (first | (refine AWP.seq ?_) | (refine AWP.region av_ok ?_; conv => whnf) | (refine AWP.ret ?_; conv => whnf) | (refine AWP.skip ?_; conv => whnf) | (refine AWP.exit ?_; conv => whnf) | (refine AWP.block ?_; conv => whnf) | (refine AWP.cond ?_; conv => whnf) | (refine AB.tt ?_; conv => whnf) | (refine AB.ff ?_; conv => whnf) | (refine AB.ofT (by assumption) ?_; conv => whnf) | (refine AB.ofF (by assumption) ?_; conv => whnf) | (exact trivial) | (refine And.intro rfl ?_; conv => whnf) | (refine AB.mk (fun h => ?_) (fun h => ?_) <;> (conv => whnf)))
  refine' AWP.draw av_ok 15 [[], [0], [0, 1], [], [3], [3, 4], [], [6], [6, 7], [], [9], [9, 10], [], [12], [12, 13], [13, 12, 14, 10, 9, 11, 7, 6, 8, 4, 3, 5, 1, 0, 2], [2, 0, 1, 5, 3, 4, 8, 6, 7, 11, 9, 10, 14, 12, 13, 15]] [(_, _), (_, _), (_, _), (_, _), (_, _), (_, _), (_, _), (_, _), (_, _), (_, _), (_, _), (_, _), (_, _), (_, _), (_, _)] ?hD ?hok ?hl ?hf ?hno ?ht
  case hD => kernel_rfl
  case hok => kernel_rfl
  case hl => rfl
  case hf =>
    conv => whnf
    repeat' (first | (refine ⟨rfl, rfl⟩) | exact trivial | (refine AIx.at 0 _ rfl rfl ?_; conv => whnf) | (refine AIx.at 1 _ rfl rfl ?_; conv => whnf) | (refine AIx.at 2 _ rfl rfl ?_; conv => whnf) | (refine AIx.at 3 _ rfl rfl ?_; conv => whnf) | (refine AIx.at 4 _ rfl rfl ?_; conv => whnf) | (refine And.intro ?_ ?_ <;> conv => whnf))
    all_goals trace_state
  case hno => rfl
  case ht =>
    conv => whnf
    repeat' (first | (refine AWP.seq ?_) | (refine AWP.region av_ok ?_; conv => whnf) | (refine AWP.ret ?_; conv => whnf) | (refine AWP.skip ?_; conv => whnf) | (refine AWP.exit ?_; conv => whnf) | (refine AWP.block ?_; conv => whnf) | (refine AWP.cond ?_; conv => whnf) | (refine AB.tt ?_; conv => whnf) | (refine AB.ff ?_; conv => whnf) | (refine AB.ofT (by assumption) ?_; conv => whnf) | (refine AB.ofF (by assumption) ?_; conv => whnf) | (exact trivial) | (refine And.intro rfl ?_; conv => whnf) | (refine AB.mk (fun h => ?_) (fun h => ?_) <;> (conv => whnf)))
end Go.Proofs.YtlhanpkfnhnegaaDoor
