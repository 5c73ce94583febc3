/- TextOp of the reference. -/
import Derived.Test.YtlhanpkfnhnegaaDoorAvW7
set_option linter.unusedVariables false
set_option linter.unusedSimpArgs false
set_option maxRecDepth 100000
namespace Go.Proofs.YtlhanpkfnhnegaaDoor
open Go.RowKit

/-- The n-th number of an operation's words. -/
def wNum (ws : List (List UInt8)) (n j : Nat) : Int := if j < n then atN ws (j + 1) else 0
def sOpOf (ws : List (List UInt8)) : DOp := ⟨opKind (ws.headD []), wNum ws (opManyN (opKind (ws.headD []))) 0, wNum ws (opManyN (opKind (ws.headD []))) 1, wNum ws (opManyN (opKind (ws.headD []))) 2, wNum ws (opManyN (opKind (ws.headD []))) 3⟩
def sTextOpL (l : List UInt8) : DOp × Bool := if 60 < l.length then (opZ, false) else if opKind ((wordsL 32 l).headD []) = 0 then (opZ, false) else if opTextL (sOpOf (wordsL 32 l)) = l then (sOpOf (wordsL 32 l), true) else (opZ, false)
theorem words_len {c : UInt8} {l : List UInt8} : ∀ w ∈ wordsL c l, w.length ≤ l.length := by
  have key : ∀ (ws : List (List UInt8)) (w : List UInt8), w ∈ ws → w.length ≤ (joinL c ws).length := by
    intro ws
    induction ws with
    | nil => intro w h; cases h
    | cons v ws ih =>
      intro w h
      rcases List.mem_cons.1 h with rfl | h
      · exact joinL_head
      · exact Nat.le_trans (ih w h) joinL_tail
  intro w h
  have := key _ w h
  rwa [join_words] at this
def kBelow (w : List UInt8) (k : Nat) : Int := if opKind w < k then opKind w else 0
theorem kBelow_hit {w : List UInt8} {k : Nat} (hk : 1 ≤ k ∧ k ≤ 5) (h : opWordL k = w) : (k : Int) = kBelow w (k + 1) := by
  unfold kBelow
  rw [(opKind_word (by omega)).2 h, if_pos (by omega)]
theorem kBelow_miss {w : List UInt8} {k : Nat} (hk : 1 ≤ k ∧ k ≤ 5) (h : opWordL k ≠ w) : kBelow w k = kBelow w (k + 1) := by
  unfold kBelow
  have : opKind w ≠ k := fun e => h ((opKind_word (by omega)).1 e)
  by_cases h2 : opKind w < k
  · rw [if_pos h2, if_pos (by omega)]
  · rw [if_neg h2, if_neg (by omega)]
theorem kBelow_end (w : List UInt8) : kBelow w 6 = opKind w := by
  have := opKind_range w
  unfold kBelow
  split <;> omega
theorem kBelow_one (w : List UInt8) : kBelow w 1 = 0 := by
  have := opKind_range w
  unfold kBelow
  split <;> omega
/-- The row of numbers behind n of them. -/
def wRow (ws : List (List UInt8)) (n : Nat) : List (List AD) := [wNum ws n 0, wNum ws n 1, wNum ws n 2, wNum ws n 3].map eI
theorem wRow_set {ws : List (List UInt8)} {n : Nat} (h : n < 4) : (wRow ws n).set n [dI (atN ws (n + 1))] = wRow ws (n + 1) := by
  have : n = 0 ∨ n = 1 ∨ n = 2 ∨ n = 3 := by omega
  rcases this with rfl | rfl | rfl | rfl <;> simp [wRow, wNum, eI]
theorem wRow_get {ws : List (List UInt8)} {n j : Nat} (h : j < 4) : ∃ x, (wRow ws n)[j]? = some [dI x] := by
  have : j = 0 ∨ j = 1 ∨ j = 2 ∨ j = 3 := by omega
  rcases this with rfl | rfl | rfl | rfl <;> exact ⟨_, rfl⟩
theorem sOpWord_p (x : Int) : PCall av 64 [pI x] (rL (opWordL x)) := PCall.plain av_ok Tryd.call64 rfl rfl fun w _ => sOpWord_calls x w
theorem sl32OpMany_p (x : Int) (h : 1 ≤ x ∧ x ≤ 5) : PCall av 65 [pI x] (rI (opManyN x)) := PCall.plain av_ok Tryd.call65 rfl rfl fun w _ => sl32OpMany_calls x w h
theorem sTextOp_p (l : List UInt8) (hl : l.length ≤ 2000000) : PCall av 34 [pL l] (.tup [.agg (sTextOpL l).1.dz, .one (dB (sTextOpL l).2)]) := by
  have sp := sl1Split_p l 32 hl
  have hwl : ∀ w ∈ wordsL 32 l, w.length ≤ 2000000 := fun w h => Nat.le_trans (words_len w h) hl
  obtain ⟨w0, r, hw⟩ := wordsL_split (c := 32) (s := l)
  rw [hw] at sp hwl
  by_cases h60 : 60 < l.length
  · have e : sTextOpL l = (opZ, false) := by unfold sTextOpL; rw [if_pos h60]
    have hlt : decide (((⟨l.toArray⟩ : ByteArray).size : Int) > 60) = true := by rw [sz_dL]; simp; omega
    rw [e]
    refine pcall_of av_ok Tryd.func34 rfl Tryd.call34 Tryd.ntmps34 (congrArg Array.toList Tryd.results34) fun S => ?_; conv => whnf
    repeat' (first | (refine AWP.seq ?_) | (refine AWP.region av_ok ?_; conv => whnf) | (refine AWP.ret ?_; conv => whnf) | (refine AWP.skip ?_; conv => whnf) | (refine AWP.exit ?_; conv => whnf) | (refine AWP.block ?_; conv => whnf) | (refine AWP.cond ?_; conv => whnf) | (refine AB.tt ?_; conv => whnf) | (refine AB.ff ?_; conv => whnf) | (refine AB.ofT (by assumption) ?_; conv => whnf) | (refine AB.ofF (by assumption) ?_; conv => whnf) | (exact trivial) | (refine And.intro rfl ?_; conv => whnf) | (refine AB.mk (fun h => ?_) (fun h => ?_) <;> (conv => whnf)))
  · have hlt : decide (((⟨l.toArray⟩ : ByteArray).size : Int) > 60) = false := by rw [sz_dL]; simp; omega
    have e0 : sTextOpL l = if opKind w0 = 0 then (opZ, false) else if opTextL (sOpOf (w0 :: r)) = l then (sOpOf (w0 :: r), true) else (opZ, false) := by unfold sTextOpL; rw [if_neg h60, hw]; rfl
    refine pcall_of av_ok Tryd.func34 rfl Tryd.call34 Tryd.ntmps34 (congrArg Array.toList Tryd.results34) fun S => ?_; conv => whnf
    repeat' (first | (refine AWP.seq ?_) | (refine AWP.region av_ok ?_; conv => whnf) | (refine AWP.ret ?_; conv => whnf) | (refine AWP.skip ?_; conv => whnf) | (refine AWP.exit ?_; conv => whnf) | (refine AWP.block ?_; conv => whnf) | (refine AWP.cond ?_; conv => whnf) | (refine AB.tt ?_; conv => whnf) | (refine AB.ff ?_; conv => whnf) | (refine AB.ofT (by assumption) ?_; conv => whnf) | (refine AB.ofF (by assumption) ?_; conv => whnf) | (refine ACall.pure sp rfl ?_; conv => whnf) | (exact trivial) | (refine And.intro rfl ?_; conv => whnf) | (refine AB.mk (fun h => ?_) (fun h => ?_) <;> (conv => whnf)))
    refine AWP.loopS (fun k : Nat => 1 ≤ k ∧ k ≤ 6) [6, 16, 17, 18, 19, 20, 21, 22, 23, 24, 25, 26, 27] (fun k => [(6, vI .i64 (k : Int))]) (fun k => [(2, .cells 25 [.d (dI 0), .d (dI 0), .d (dI 0), .d (dI 0), .d (dI 0)]), (5, .cells 25 [.d (dI (kBelow w0 k)), .d (dI 0), .d (dI 0), .d (dI 0), .d (dI 0)])]) (fun k => 6 - k) 1 ⟨by omega, by omega⟩ ?_ (SubO.cons rfl (SubO.cons ?_ SubO.nil)) (fun k hR => ?_) <;> (try conv => whnf)
    · repeat' (first | exact trivial | (refine And.intro rfl ?_; conv => whnf))
    · rw [kBelow_one]; rfl
    · obtain ⟨hk1, hk6⟩ := hR
      repeat' (first | (refine AWP.seq ?_) | (refine AWP.region av_ok ?_; conv => whnf) | (refine AWP.ret ?_; conv => whnf) | (refine AWP.skip ?_; conv => whnf) | (refine AWP.exit ?_; conv => whnf) | (refine AWP.block ?_; conv => whnf) | (refine AWP.cond ?_; conv => whnf) | (refine AB.tt ?_; conv => whnf) | (refine AB.ff ?_; conv => whnf) | (refine AB.ofT (by assumption) ?_; conv => whnf) | (refine AB.ofF (by assumption) ?_; conv => whnf) | (refine AW.i64 (by simp only [decide_eq_true_eq, decide_eq_false_iff_not, List.length_map, Bool.not_eq_true', Bool.not_eq_false'] at *; omega) (by simp only [decide_eq_true_eq, decide_eq_false_iff_not, List.length_map, Bool.not_eq_true', Bool.not_eq_false'] at *; omega) ?_; conv => whnf) | (exact trivial) | (refine And.intro rfl ?_; conv => whnf) | (refine AB.mk (fun h => ?_) (fun h => ?_) <;> (conv => whnf)))
      · have hk5 : k ≤ 5 := (by simp only [decide_eq_true_eq, decide_eq_false_iff_not, List.length_map, Bool.not_eq_true', Bool.not_eq_false'] at *; omega)
        refine' AWP.draw av_ok 5 [[], [0], [], [2], [2, 3], [3, 2, 4, 0, 1]] [(_, _), (_, _), (_, _), (_, _), (_, _)] ?hD ?hok ?hl ?hf ?hno ?ht
        case hD => kernel_rfl
        case hok => kernel_rfl
        case hl => rfl
        case hf =>
          conv => whnf
          repeat' (first | (refine ⟨rfl, rfl⟩) | exact trivial | (refine AFCall.mk ⟨_, _, sOpWord_p k, .inl rfl, ?_⟩; conv => whnf) | (refine AIx.at 0 _ rfl rfl ?_; conv => whnf) | (refine And.intro ?_ ?_ <;> conv => whnf))
        case hno => rfl
        case ht =>
          conv => whnf
          repeat' (first | (refine AWP.seq ?_) | (refine AWP.region av_ok ?_; conv => whnf) | (refine AWP.ret ?_; conv => whnf) | (refine AWP.skip ?_; conv => whnf) | (refine AWP.exit ?_; conv => whnf) | (refine AWP.block ?_; conv => whnf) | (refine AWP.cond ?_; conv => whnf) | (refine AB.tt ?_; conv => whnf) | (refine AB.ff ?_; conv => whnf) | (refine AB.ofT (by assumption) ?_; conv => whnf) | (refine AB.ofF (by assumption) ?_; conv => whnf) | (refine AW.i64 (by simp only [decide_eq_true_eq, decide_eq_false_iff_not, List.length_map, Bool.not_eq_true', Bool.not_eq_false'] at *; omega) (by simp only [decide_eq_true_eq, decide_eq_false_iff_not, List.length_map, Bool.not_eq_true', Bool.not_eq_false'] at *; omega) ?_; conv => whnf) | (exact trivial) | (refine And.intro rfl ?_; conv => whnf) | (refine AB.mk (fun h => ?_) (fun h => ?_) <;> (conv => whnf)))
          · have heq : opWordL k = w0 := by rw [str_dec] at h; simpa using h
            refine ANext.mk ⟨k + 1, ⟨by omega, by omega⟩, by omega, ?_, SubO.cons rfl (SubO.cons (congrArg (fun x : Int => some (AO.cells 25 [.d (dI x), .d (dI 0), .d (dI 0), .d (dI 0), .d (dI 0)])) (kBelow_hit ⟨hk1, hk5⟩ heq)) SubO.nil)⟩
            (conv => whnf); repeat' (first | exact trivial | (refine ⟨rfl, ?_⟩; conv => whnf))
          · have hne : opWordL k ≠ w0 := by rw [str_dec] at h; simpa using h
            refine ANext.mk ⟨k + 1, ⟨by omega, by omega⟩, by omega, ?_, SubO.cons rfl (SubO.cons (congrArg (fun x : Int => some (AO.cells 25 [.d (dI x), .d (dI 0), .d (dI 0), .d (dI 0), .d (dI 0)])) (kBelow_miss ⟨hk1, hk5⟩ hne)) SubO.nil)⟩
            (conv => whnf); repeat' (first | exact trivial | (refine ⟨rfl, ?_⟩; conv => whnf))
      · have hk : k = 6 := (by simp only [decide_eq_true_eq, decide_eq_false_iff_not, List.length_map, Bool.not_eq_true', Bool.not_eq_false'] at *; omega)
        subst hk
        rw [kBelow_end] at h
        rw [e0, if_pos (by simpa using h)]
      · have hk : k = 6 := (by simp only [decide_eq_true_eq, decide_eq_false_iff_not, List.length_map, Bool.not_eq_true', Bool.not_eq_false'] at *; omega)
        subst hk
        rw [kBelow_end] at *
        have hz : opKind w0 ≠ 0 := by simpa using h
        clear h
        have hr := opKind_range w0
        have hm4 := opManyN_le (opKind w0)
        rw [e0, if_neg hz]
        refine ⟨4, rfl, rfl, by decide, by decide, ?_⟩
        conv => whnf
        repeat' (first | (refine AWP.seq ?_) | (refine AWP.region av_ok ?_; conv => whnf) | (refine AWP.ret ?_; conv => whnf) | (refine AWP.skip ?_; conv => whnf) | (refine AWP.exit ?_; conv => whnf) | (refine AWP.block ?_; conv => whnf) | (refine AWP.cond ?_; conv => whnf) | (refine AB.tt ?_; conv => whnf) | (refine AB.ff ?_; conv => whnf) | (refine AB.ofT (by assumption) ?_; conv => whnf) | (refine AB.ofF (by assumption) ?_; conv => whnf) | (exact trivial) | (refine And.intro rfl ?_; conv => whnf) | (refine AB.mk (fun h => ?_) (fun h => ?_) <;> (conv => whnf)))
        refine AWP.loopS (fun n : Nat => n ≤ opManyN (opKind w0)) ([8, 33, 34, 35, 36, 37, 38, 39, 40, 41, 42, 43, 44, 45, 46]) (fun n => [(8, vI .i64 (n : Int))]) (fun n => [(2, .cells 25 [.d (dI 0), .d (dI 0), .d (dI 0), .d (dI 0), .d (dI 0)]), (5, .cells 25 [.d (dI (opKind w0)), .d (dI 0), .d (dI 0), .d (dI 0), .d (dI 0)]), (32, .row 2 1 (wRow (w0 :: r) n))]) (fun n => opManyN (opKind w0) - n) 0 (by omega) ?_ (SubO.cons rfl (SubO.cons rfl (SubO.cons rfl SubO.nil))) (fun n hn => ?_) <;> (conv => whnf)
        · repeat' (first | exact trivial | (refine And.intro rfl ?_; conv => whnf))
        · obtain ⟨x, hx⟩ : ∃ x, n < 4 → (wRow (w0 :: r) n)[n]? = some [dI x] := by
            by_cases h4 : n < 4
            · obtain ⟨x, hx⟩ := wRow_get (ws := w0 :: r) (n := n) (j := n) h4
              exact ⟨x, fun _ => hx⟩
            · exact ⟨0, fun h => absurd h h4⟩
          repeat' (first | (refine AWP.seq ?_) | (refine AWP.region av_ok ?_; conv => whnf) | (refine AWP.ret ?_; conv => whnf) | (refine AWP.skip ?_; conv => whnf) | (refine AWP.exit ?_; conv => whnf) | (refine AWP.block ?_; conv => whnf) | (refine AWP.cond ?_; conv => whnf) | (refine AB.tt ?_; conv => whnf) | (refine AB.ff ?_; conv => whnf) | (refine AB.ofT (by assumption) ?_; conv => whnf) | (refine AB.ofF (by assumption) ?_; conv => whnf) | (refine ACall.pure (sl32OpMany_p (opKind w0) (by omega)) rfl ?_; conv => whnf) | (refine ACall.pure (sl32At_p (w0 :: r) (n + 1) hwl) rfl ?_; conv => whnf) | (refine AIx.at n _ rfl (hx (by simp only [decide_eq_true_eq, decide_eq_false_iff_not, List.length_map, Bool.not_eq_true', Bool.not_eq_false'] at *; omega)) ?_; conv => whnf) | (refine AW.i64 (by simp only [decide_eq_true_eq, decide_eq_false_iff_not, List.length_map, Bool.not_eq_true', Bool.not_eq_false'] at *; omega) (by simp only [decide_eq_true_eq, decide_eq_false_iff_not, List.length_map, Bool.not_eq_true', Bool.not_eq_false'] at *; omega) ?_; conv => whnf) | (exact trivial) | (refine And.intro rfl ?_; conv => whnf) | (refine AB.mk (fun h => ?_) (fun h => ?_) <;> (conv => whnf)))
          · have hlt : n < opManyN (opKind w0) := (by simp only [decide_eq_true_eq, decide_eq_false_iff_not, List.length_map, Bool.not_eq_true', Bool.not_eq_false'] at *; omega)
            refine ANext.mk ⟨n + 1, by omega, by omega, ?_, SubO.cons rfl (SubO.cons rfl (SubO.cons (congrArg some (congrArg (AO.row 2 1) (wRow_set (by omega)))) SubO.nil))⟩
            (conv => whnf); repeat' (first | exact trivial | (refine ⟨rfl, ?_⟩; conv => whnf))
          · have hn2 : n = opManyN (opKind w0) := (by simp only [decide_eq_true_eq, decide_eq_false_iff_not, List.length_map, Bool.not_eq_true', Bool.not_eq_false'] at *; omega)
            clear h hx
            subst hn2
            by_cases ht : opTextL (sOpOf (w0 :: r)) = l
            · have ht' : (!((⟨(opTextL (sOpOf (w0 :: r))).toArray⟩ : ByteArray).toList == (⟨l.toArray⟩ : ByteArray).toList)) = false := by rw [str_dec, decide_eq_true ht]; rfl
              rw [if_pos ht]
              repeat' (first | (refine AWP.seq ?_) | (refine AWP.region av_ok ?_; conv => whnf) | (refine AWP.ret ?_; conv => whnf) | (refine AWP.skip ?_; conv => whnf) | (refine AWP.exit ?_; conv => whnf) | (refine AWP.block ?_; conv => whnf) | (refine AWP.cond ?_; conv => whnf) | (refine AB.tt ?_; conv => whnf) | (refine AB.ff ?_; conv => whnf) | (refine AB.ofT (by assumption) ?_; conv => whnf) | (refine AB.ofF (by assumption) ?_; conv => whnf) | (refine AIx.at 0 _ rfl rfl ?_; conv => whnf) | (refine AIx.at 1 _ rfl rfl ?_; conv => whnf) | (refine AIx.at 2 _ rfl rfl ?_; conv => whnf) | (refine AIx.at 3 _ rfl rfl ?_; conv => whnf) | (refine ACall.pure (sOpText_p (sOpOf (w0 :: r))) rfl ?_; conv => whnf) | (exact trivial) | (refine And.intro rfl ?_; conv => whnf) | (refine AB.mk (fun h => ?_) (fun h => ?_) <;> (conv => whnf)))
              rfl
            · have ht' : (!((⟨(opTextL (sOpOf (w0 :: r))).toArray⟩ : ByteArray).toList == (⟨l.toArray⟩ : ByteArray).toList)) = true := by rw [str_dec, decide_eq_false ht]; rfl
              rw [if_neg ht]
              repeat' (first | (refine AWP.seq ?_) | (refine AWP.region av_ok ?_; conv => whnf) | (refine AWP.ret ?_; conv => whnf) | (refine AWP.skip ?_; conv => whnf) | (refine AWP.exit ?_; conv => whnf) | (refine AWP.block ?_; conv => whnf) | (refine AWP.cond ?_; conv => whnf) | (refine AB.tt ?_; conv => whnf) | (refine AB.ff ?_; conv => whnf) | (refine AB.ofT (by assumption) ?_; conv => whnf) | (refine AB.ofF (by assumption) ?_; conv => whnf) | (refine AIx.at 0 _ rfl rfl ?_; conv => whnf) | (refine AIx.at 1 _ rfl rfl ?_; conv => whnf) | (refine AIx.at 2 _ rfl rfl ?_; conv => whnf) | (refine AIx.at 3 _ rfl rfl ?_; conv => whnf) | (refine ACall.pure (sOpText_p (sOpOf (w0 :: r))) rfl ?_; conv => whnf) | (exact trivial) | (refine And.intro rfl ?_; conv => whnf) | (refine AB.mk (fun h => ?_) (fun h => ?_) <;> (conv => whnf)))
end Go.Proofs.YtlhanpkfnhnegaaDoor
