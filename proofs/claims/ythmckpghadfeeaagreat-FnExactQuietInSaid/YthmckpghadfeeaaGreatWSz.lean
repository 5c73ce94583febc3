/- The laws' own sizes at the world's types (gen_wlaw.py). -/
import Derived.Test.YthmckpghadfeeaaGreatWData
set_option linter.unusedVariables false
set_option linter.unusedSimpArgs false
set_option maxRecDepth 100000
namespace Go.Proofs.YthmckpghadfeeaaGreat
open Go.ChangeShapes Go.WideShapes Go.RowKit

theorem rI_of {a b : Int} (h : a = b) : AP.val (.one (dI a)) = rI b := by rw [h]
theorem ACall.sz {E : AEnv} {S : Base} {f : FuncId} {args : List AV} {st : ASt} {K : AV → ASt → Prop} {p : AP1} {left a : Int} (hc : PCall E f [p, pI left] (rI (max (left - a) (-1)))) (hps : aPs args (· = [p, pI left]))
    (h1 : decide (left - a < 0) = true → K (vI .i64 (-1)) st) (h2 : decide (left - a < 0) = false → K (vI .i64 (left - a)) st) : ACall E S f args st K := by
  refine ACall.pure hc hps ?_
  cases h : decide (left - a < 0) with
  | true =>
    have e : max (left - a) (-1) = -1 := by simp only [decide_eq_true_eq] at h; omega
    rw [e]; exact h1 h
  | false =>
    have e : max (left - a) (-1) = left - a := by simp only [decide_eq_false_iff_not] at h; omega
    rw [e]; exact h2 h
def cntS {α : Type} (f : α → Nat) : List α → Nat
  | [] => 0
  | x :: r => 1 + f x + cntS f r
theorem cntS_len {α : Type} (f : α → Nat) : ∀ l : List α, l.length ≤ cntS f l
  | [] => Nat.le_refl _
  | x :: r => by have := cntS_len f r; simp only [List.length_cons, cntS]; omega
theorem cntS_mem {α : Type} {f : α → Nat} : ∀ {l : List α} {y : α}, y ∈ l → f y ≤ cntS f l
  | x :: r, y, h => by
    rcases List.mem_cons.1 h with rfl | h
    · simp only [cntS]; omega
    · have := cntS_mem (f := f) h; simp only [cntS]; omega
theorem cntS_take {α : Type} (f : α → Nat) : ∀ (l : List α) (k : Nat), (l.length : Int) - (l.take k).length + cntS f (l.take k) ≤ cntS f l
  | [], k => by simp [cntS]
  | x :: r, 0 => by have := cntS_len f (x :: r); simp [cntS] at *; omega
  | x :: r, k + 1 => by have := cntS_take f r k; simp only [List.take_succ_cons, List.length_cons, cntS] at *; omega
theorem cntS_succ {α : Type} (f : α → Nat) : ∀ (l : List α) (k : Nat) (h : k < l.length), cntS f (l.take (k + 1)) = cntS f (l.take k) + 1 + f l[k]
  | x :: r, 0, h => by simp [cntS]
  | x :: r, k + 1, h => by
    have := cntS_succ f r k (by simpa using h)
    simp only [List.take_succ_cons, cntS, List.getElem_cons_succ] at *
    omega

def DWrite.cnt (x : DWrite) : Nat := x.row.length
theorem DWrite.cnt_small {x : DWrite} {n : Nat} (h : x.cnt ≤ n) : DWrite.small n x := by
  unfold DWrite.cnt at h
  unfold DWrite.small
  exact (by omega)
def DDisk.cnt (x : DDisk) : Nat := cntS (fun l => l.length) x.kept + cntS DWrite.cnt x.wait
theorem DDisk.cnt_small {x : DDisk} {n : Nat} (h : x.cnt ≤ n) : DDisk.small n x := by
  unfold DDisk.cnt at h
  unfold DDisk.small
  exact ⟨(by have := cntS_len (fun l => l.length) x.kept; omega), (fun y hy => (by have : y.length ≤ _ := cntS_mem (f := (fun l => l.length)) hy; omega)), (by have := cntS_len DWrite.cnt x.wait; omega), (fun y hy => DWrite.cnt_small (by have := cntS_mem (f := DWrite.cnt) hy; omega))⟩
def DTwo.cnt (x : DTwo) : Nat := DDisk.cnt x.a + DDisk.cnt x.b
theorem DTwo.cnt_small {x : DTwo} {n : Nat} (h : x.cnt ≤ n) : DTwo.small n x := by
  unfold DTwo.cnt at h
  unfold DTwo.small
  exact ⟨(DDisk.cnt_small (by omega)), (DDisk.cnt_small (by omega))⟩
def DHead.cnt (x : DHead) : Nat := x.seen.length
theorem DHead.cnt_small {x : DHead} {n : Nat} (h : x.cnt ≤ n) : DHead.small n x := by
  unfold DHead.cnt at h
  unfold DHead.small
  exact (by omega)
def DBook.cnt (x : DBook) : Nat := x.entries.length
theorem DBook.cnt_small {x : DBook} {n : Nat} (h : x.cnt ≤ n) : DBook.small n x := by
  unfold DBook.cnt at h
  unfold DBook.small
  exact (by omega)
def DLogNode.cnt (x : DLogNode) : Nat := DTwo.cnt x.two + DHead.cnt x.head + DHead.cnt x.nxt + DBook.cnt x.book + x.seen.length + x.owe.length
theorem DLogNode.cnt_small {x : DLogNode} {n : Nat} (h : x.cnt ≤ n) : DLogNode.small n x := by
  unfold DLogNode.cnt at h
  unfold DLogNode.small
  exact ⟨(DTwo.cnt_small (by omega)), (DHead.cnt_small (by omega)), (DHead.cnt_small (by omega)), (DBook.cnt_small (by omega)), (by omega), (by omega)⟩
def DState.cnt (x : DState) : Nat := x.pairs.length + x.jobs.length
theorem DState.cnt_small {x : DState} {n : Nat} (h : x.cnt ≤ n) : DState.small n x := by
  unfold DState.cnt at h
  unfold DState.small
  exact ⟨(by omega), (by omega)⟩
def DStore.cnt (x : DStore) : Nat := DDisk.cnt x.disk + DState.cnt x.state
theorem DStore.cnt_small {x : DStore} {n : Nat} (h : x.cnt ≤ n) : DStore.small n x := by
  unfold DStore.cnt at h
  unfold DStore.small
  exact ⟨(DDisk.cnt_small (by omega)), (DState.cnt_small (by omega))⟩
def DJobs.cnt (x : DJobs) : Nat := x.opens.length
theorem DJobs.cnt_small {x : DJobs} {n : Nat} (h : x.cnt ≤ n) : DJobs.small n x := by
  unfold DJobs.cnt at h
  unfold DJobs.small
  exact (by omega)
def DView.cnt (x : DView) : Nat := DJobs.cnt x.jobs
theorem DView.cnt_small {x : DView} {n : Nat} (h : x.cnt ≤ n) : DView.small n x := by
  unfold DView.cnt at h
  unfold DView.small
  exact (DJobs.cnt_small (by omega))
def DSched.cnt (x : DSched) : Nat := DView.cnt x.view
theorem DSched.cnt_small {x : DSched} {n : Nat} (h : x.cnt ≤ n) : DSched.small n x := by
  unfold DSched.cnt at h
  unfold DSched.small
  exact (DView.cnt_small (by omega))
def DClient.cnt (x : DClient) : Nat := x.todo.length + x.gots.length
theorem DClient.cnt_small {x : DClient} {n : Nat} (h : x.cnt ≤ n) : DClient.small n x := by
  unfold DClient.cnt at h
  unfold DClient.small
  exact ⟨(by omega), (by omega)⟩
def DMsg.cnt (x : DMsg) : Nat := x.row.length
theorem DMsg.cnt_small {x : DMsg} {n : Nat} (h : x.cnt ≤ n) : DMsg.small n x := by
  unfold DMsg.cnt at h
  unfold DMsg.small
  exact (by omega)
def DNet.cnt (x : DNet) : Nat := cntS DMsg.cnt x.flight + x.cuts.length
theorem DNet.cnt_small {x : DNet} {n : Nat} (h : x.cnt ≤ n) : DNet.small n x := by
  unfold DNet.cnt at h
  unfold DNet.small
  exact ⟨(by have := cntS_len DMsg.cnt x.flight; omega), (fun y hy => DMsg.cnt_small (by have := cntS_mem (f := DMsg.cnt) hy; omega)), (by omega)⟩
def DWorld.cnt (x : DWorld) : Nat := DLogNode.cnt x.log + DStore.cnt x.store + DSched.cnt x.left + DSched.cnt x.right + DClient.cnt x.ann + DClient.cnt x.bob + DNet.cnt x.net + x.clocks.length + x.up.length
theorem DWorld.cnt_small {x : DWorld} {n : Nat} (h : x.cnt ≤ n) : DWorld.small n x := by
  unfold DWorld.cnt at h
  unfold DWorld.small
  exact ⟨(DLogNode.cnt_small (by omega)), (DStore.cnt_small (by omega)), (DSched.cnt_small (by omega)), (DSched.cnt_small (by omega)), (DClient.cnt_small (by omega)), (DClient.cnt_small (by omega)), (DNet.cnt_small (by omega)), (by omega), (by omega)⟩
theorem szInt64S_p (l : (List Int)) (left : Int) (h0 : 0 ≤ left) (h1 : left ≤ 1048576) (hs : l.length ≤ 9223372036854775807) : PCall av 20 [.one (.sl (l.map eI)), pI left] (rI (max (left - l.length) (-1))) := by
  refine pcall_of av_ok Tryz.func20 rfl Tryz.call20 Tryz.ntmps20 (congrArg Array.toList Tryz.results20) fun S => ?_; conv => whnf
  repeat' (first | (refine AWP.seq ?_) | ((first | refine AWP.region av_ok ?_ | refine AWP.ret ?_ | refine AWP.skip ?_ | refine AWP.exit ?_ | refine AWP.block ?_ | refine AWP.cond ?_ | refine AB.tt ?_ | refine AB.ff ?_); conv => whnf) | (refine AW.i64 (n := _ - _) (by first | omega | (simp only [decide_eq_true_eq, decide_eq_false_iff_not, List.length_map] at *; omega)) (by first | omega | (simp only [decide_eq_true_eq, decide_eq_false_iff_not, List.length_map] at *; omega)) ?_; conv => whnf) | ((first | refine AB.ofT (by assumption) ?_ | refine AB.ofF (by assumption) ?_); conv => whnf) | (exact trivial) | (refine And.intro rfl ?_; conv => whnf) | (refine AB.mk (fun h => ?_) (fun h => ?_) <;> (conv => whnf)) | (with_reducible_and_instances rfl) | (exact (rfl : AP.tup _ = AP.tup _)))
  all_goals
    refine rI_of ?_
    simp only [decide_eq_true_eq, decide_eq_false_iff_not, List.length_map] at *
    omega
theorem szInt64SS_p (l : (List (List Int))) (left : Int) (h0 : 0 ≤ left) (h1 : left ≤ 1048576) (hs : l.length ≤ 9223372036854775807 ∧ ∀ y ∈ l, y.length ≤ 9223372036854775807) : PCall av 94 [.one (.sl (l.map eIIw)), pI left] (rI (max (left - cntS (fun l => l.length) l) (-1))) := by
  refine pcall_of av_ok Tryz.func94 rfl Tryz.call94 Tryz.ntmps94 (congrArg Array.toList Tryz.results94) fun S => ?_; conv => whnf
  have hlen := hs.1
  have hcl := cntS_len (fun l => l.length) l
  repeat' (first | (refine AWP.seq ?_) | ((first | refine AWP.region av_ok ?_ | refine AWP.ret ?_ | refine AWP.skip ?_ | refine AWP.exit ?_ | refine AWP.block ?_ | refine AWP.cond ?_ | refine AB.tt ?_ | refine AB.ff ?_); conv => whnf) | (refine AW.i64 (n := _ - _) (by first | omega | (simp only [decide_eq_true_eq, decide_eq_false_iff_not, List.length_map] at *; omega)) (by first | omega | (simp only [decide_eq_true_eq, decide_eq_false_iff_not, List.length_map] at *; omega)) ?_; conv => whnf) | ((first | refine AB.ofT (by assumption) ?_ | refine AB.ofF (by assumption) ?_); conv => whnf) | (exact trivial) | (refine And.intro rfl ?_; conv => whnf) | (refine AB.mk (fun h => ?_) (fun h => ?_) <;> (conv => whnf)) | (with_reducible_and_instances rfl) | (exact (rfl : AP.tup _ = AP.tup _)))
  · refine rI_of ?_
    simp only [decide_eq_true_eq, decide_eq_false_iff_not, List.length_map] at *
    omega
  refine AWP.loopS (fun p : Nat × Int => p.1 ≤ l.length ∧ 0 ≤ p.2 ∧ p.2 = left - l.length + (p.1 : Int) - cntS (fun l => l.length) (l.take p.1)) [1, 4, 5, 12, 13, 14, 15, 16, 17, 18, 19, 20, 21, 22, 23, 24, 25] (fun p => [(1, vI .i64 p.2), (5, vI .i64 (p.1 : Int))]) (fun _ => []) (fun p => l.length - p.1) (0, left - ((l.map eIIw).length : Int)) ⟨by simp, (by first | omega | (simp only [decide_eq_true_eq, decide_eq_false_iff_not, List.length_map] at *; omega)), by simp [cntS]⟩ ?_ SubO.nil (fun p hR => ?_) <;> (conv => whnf)
  · repeat' (first | exact trivial | (refine ⟨rfl, ?_⟩; conv => whnf))
  · obtain ⟨k, v⟩ := p
    obtain ⟨hk, hv, he⟩ := hR
    simp only at hk hv he
    have htk := cntS_take (fun l => l.length) l k
    have htl : (l.take k).length = k := by simp; omega
    repeat' (first | (refine AWP.seq ?_) | ((first | refine AWP.region av_ok ?_ | refine AWP.ret ?_ | refine AWP.skip ?_ | refine AWP.exit ?_ | refine AWP.block ?_ | refine AWP.cond ?_ | refine AB.tt ?_ | refine AB.ff ?_); conv => whnf) | ((first | refine AB.ofT (by assumption) ?_ | refine AB.ofF (by assumption) ?_); conv => whnf) | (refine AIx.mapF (by first | omega | (simp only [decide_eq_true_eq, decide_eq_false_iff_not, List.length_map] at *; omega)) (fun hlt => ?_); conv => whnf) | (refine ACall.pure (szInt64S_p _ _ hv (by first | omega | (simp only [decide_eq_true_eq, decide_eq_false_iff_not, List.length_map] at *; omega)) (hs.2 _ (List.getElem_mem hlt))) rfl ?_; conv => whnf) | (refine AW.i64 (by first | omega | (simp only [decide_eq_true_eq, decide_eq_false_iff_not, List.length_map] at *; omega)) (by first | omega | (simp only [decide_eq_true_eq, decide_eq_false_iff_not, List.length_map] at *; omega)) ?_; conv => whnf) | (exact trivial) | (refine And.intro rfl ?_; conv => whnf) | (refine AB.mk (fun h => ?_) (fun h => ?_) <;> (conv => whnf)) | (with_reducible_and_instances rfl) | (exact (rfl : AP.tup _ = AP.tup _)))
    all_goals first
      | (have hsu := cntS_succ (fun l => l.length) l k hlt
         have htk := cntS_take (fun l => l.length) l (k + 1)
         have htl : (l.take (k + 1)).length = k + 1 := by simp; omega
         simp only [decide_eq_true_eq, decide_eq_false_iff_not, List.length_map] at *
         first
           | (refine rI_of ?_; omega)
           | (refine ANext.mk ⟨(k + 1, max (v - ((l[k].length : Nat) : Int)) (-1)), ⟨by simp only; omega, by simp only; omega, by simp only; omega⟩, by simp only; omega, ?_, SubO.nil⟩; (conv => whnf); repeat' (first | exact trivial | (refine ⟨rfl, ?_⟩; conv => whnf))))
      | (have hkk : k = l.length := (by first | omega | (simp only [decide_eq_true_eq, decide_eq_false_iff_not, List.length_map] at *; omega))
         subst hkk
         refine rI_of ?_
         rw [List.take_length] at he
         omega)
set_option maxHeartbeats 2000000 in
theorem szWrite_p (x : DWrite) (left : Int) (h0 : 0 ≤ left) (h1 : left ≤ 1048576) (hs : DWrite.small 9223372036854775807 x) : PCall av 152 [.agg x.ds, pI left] (rI (max (left - x.cnt) (-1))) := by
  refine pcall_of av_ok Tryz.func152 rfl Tryz.call152 Tryz.ntmps152 (congrArg Array.toList Tryz.results152) fun S => ?_; conv => whnf
  repeat' (first | (refine AWP.seq ?_) | ((first | refine AWP.region av_ok ?_ | refine AWP.ret ?_ | refine AWP.skip ?_ | refine AWP.exit ?_ | refine AWP.block ?_ | refine AWP.cond ?_ | refine AB.tt ?_ | refine AB.ff ?_); conv => whnf) | ((first | refine AB.ofT (by assumption) ?_ | refine AB.ofF (by assumption) ?_); conv => whnf) | (refine ACall.sz (szInt64S_p x.row _ (by first | omega | (simp only [decide_eq_true_eq, decide_eq_false_iff_not, List.length_map] at *; omega)) (by first | omega | (simp only [decide_eq_true_eq, decide_eq_false_iff_not, List.length_map] at *; omega)) hs) rfl (fun h => ?_) (fun h => ?_) <;> (conv => whnf)) | (exact trivial) | (refine And.intro rfl ?_; conv => whnf) | (refine AB.mk (fun h => ?_) (fun h => ?_) <;> (conv => whnf)) | (with_reducible_and_instances rfl) | (exact (rfl : AP.tup _ = AP.tup _)))
  all_goals
    refine rI_of ?_
    first
      | omega
      | (simp only [decide_eq_true_eq, decide_eq_false_iff_not, DWrite.cnt] at * <;> omega)
theorem szWriteS_p (l : (List DWrite)) (left : Int) (h0 : 0 ≤ left) (h1 : left ≤ 1048576) (hs : l.length ≤ 9223372036854775807 ∧ ∀ y ∈ l, DWrite.small 9223372036854775807 y) : PCall av 95 [.one (.sl (l.map DWrite.ds)), pI left] (rI (max (left - cntS DWrite.cnt l) (-1))) := by
  refine pcall_of av_ok Tryz.func95 rfl Tryz.call95 Tryz.ntmps95 (congrArg Array.toList Tryz.results95) fun S => ?_; conv => whnf
  have hlen := hs.1
  have hcl := cntS_len DWrite.cnt l
  repeat' (first | (refine AWP.seq ?_) | ((first | refine AWP.region av_ok ?_ | refine AWP.ret ?_ | refine AWP.skip ?_ | refine AWP.exit ?_ | refine AWP.block ?_ | refine AWP.cond ?_ | refine AB.tt ?_ | refine AB.ff ?_); conv => whnf) | (refine AW.i64 (n := _ - _) (by first | omega | (simp only [decide_eq_true_eq, decide_eq_false_iff_not, List.length_map] at *; omega)) (by first | omega | (simp only [decide_eq_true_eq, decide_eq_false_iff_not, List.length_map] at *; omega)) ?_; conv => whnf) | ((first | refine AB.ofT (by assumption) ?_ | refine AB.ofF (by assumption) ?_); conv => whnf) | (exact trivial) | (refine And.intro rfl ?_; conv => whnf) | (refine AB.mk (fun h => ?_) (fun h => ?_) <;> (conv => whnf)) | (with_reducible_and_instances rfl) | (exact (rfl : AP.tup _ = AP.tup _)))
  · refine rI_of ?_
    simp only [decide_eq_true_eq, decide_eq_false_iff_not, List.length_map] at *
    omega
  refine AWP.loopS (fun p : Nat × Int => p.1 ≤ l.length ∧ 0 ≤ p.2 ∧ p.2 = left - l.length + (p.1 : Int) - cntS DWrite.cnt (l.take p.1)) [1, 4, 5, 12, 13, 14, 15, 16, 17, 18, 19, 20, 21, 22, 23, 24, 25] (fun p => [(1, vI .i64 p.2), (5, vI .i64 (p.1 : Int))]) (fun _ => []) (fun p => l.length - p.1) (0, left - ((l.map DWrite.ds).length : Int)) ⟨by simp, (by first | omega | (simp only [decide_eq_true_eq, decide_eq_false_iff_not, List.length_map] at *; omega)), by simp [cntS]⟩ ?_ SubO.nil (fun p hR => ?_) <;> (conv => whnf)
  · repeat' (first | exact trivial | (refine ⟨rfl, ?_⟩; conv => whnf))
  · obtain ⟨k, v⟩ := p
    obtain ⟨hk, hv, he⟩ := hR
    simp only at hk hv he
    have htk := cntS_take DWrite.cnt l k
    have htl : (l.take k).length = k := by simp; omega
    repeat' (first | (refine AWP.seq ?_) | ((first | refine AWP.region av_ok ?_ | refine AWP.ret ?_ | refine AWP.skip ?_ | refine AWP.exit ?_ | refine AWP.block ?_ | refine AWP.cond ?_ | refine AB.tt ?_ | refine AB.ff ?_); conv => whnf) | ((first | refine AB.ofT (by assumption) ?_ | refine AB.ofF (by assumption) ?_); conv => whnf) | (refine AIx.mapF (by first | omega | (simp only [decide_eq_true_eq, decide_eq_false_iff_not, List.length_map] at *; omega)) (fun hlt => ?_); conv => whnf) | (refine ACall.pure (szWrite_p _ _ hv (by first | omega | (simp only [decide_eq_true_eq, decide_eq_false_iff_not, List.length_map] at *; omega)) (hs.2 _ (List.getElem_mem hlt))) rfl ?_; conv => whnf) | (refine AW.i64 (by first | omega | (simp only [decide_eq_true_eq, decide_eq_false_iff_not, List.length_map] at *; omega)) (by first | omega | (simp only [decide_eq_true_eq, decide_eq_false_iff_not, List.length_map] at *; omega)) ?_; conv => whnf) | (exact trivial) | (refine And.intro rfl ?_; conv => whnf) | (refine AB.mk (fun h => ?_) (fun h => ?_) <;> (conv => whnf)) | (with_reducible_and_instances rfl) | (exact (rfl : AP.tup _ = AP.tup _)))
    all_goals first
      | (have hsu := cntS_succ DWrite.cnt l k hlt
         have htk := cntS_take DWrite.cnt l (k + 1)
         have htl : (l.take (k + 1)).length = k + 1 := by simp; omega
         simp only [decide_eq_true_eq, decide_eq_false_iff_not, List.length_map] at *
         first
           | (refine rI_of ?_; omega)
           | (refine ANext.mk ⟨(k + 1, max (v - ((DWrite.cnt l[k] : Nat) : Int)) (-1)), ⟨by simp only; omega, by simp only; omega, by simp only; omega⟩, by simp only; omega, ?_, SubO.nil⟩; (conv => whnf); repeat' (first | exact trivial | (refine ⟨rfl, ?_⟩; conv => whnf))))
      | (have hkk : k = l.length := (by first | omega | (simp only [decide_eq_true_eq, decide_eq_false_iff_not, List.length_map] at *; omega))
         subst hkk
         refine rI_of ?_
         rw [List.take_length] at he
         omega)
set_option maxHeartbeats 2000000 in
theorem szDisk_p (x : DDisk) (left : Int) (h0 : 0 ≤ left) (h1 : left ≤ 1048576) (hs : DDisk.small 9223372036854775807 x) : PCall av 46 [.agg x.ds, pI left] (rI (max (left - x.cnt) (-1))) := by
  refine pcall_of av_ok Tryz.func46 rfl Tryz.call46 Tryz.ntmps46 (congrArg Array.toList Tryz.results46) fun S => ?_; conv => whnf
  repeat' (first | (refine AWP.seq ?_) | ((first | refine AWP.region av_ok ?_ | refine AWP.ret ?_ | refine AWP.skip ?_ | refine AWP.exit ?_ | refine AWP.block ?_ | refine AWP.cond ?_ | refine AB.tt ?_ | refine AB.ff ?_); conv => whnf) | ((first | refine AB.ofT (by assumption) ?_ | refine AB.ofF (by assumption) ?_); conv => whnf) | (refine ACall.sz (szInt64SS_p x.kept _ (by first | omega | (simp only [decide_eq_true_eq, decide_eq_false_iff_not, List.length_map] at *; omega)) (by first | omega | (simp only [decide_eq_true_eq, decide_eq_false_iff_not, List.length_map] at *; omega)) ⟨hs.1, hs.2.1⟩) rfl (fun h => ?_) (fun h => ?_) <;> (conv => whnf)) | (refine ACall.sz (szWriteS_p x.wait _ (by first | omega | (simp only [decide_eq_true_eq, decide_eq_false_iff_not, List.length_map] at *; omega)) (by first | omega | (simp only [decide_eq_true_eq, decide_eq_false_iff_not, List.length_map] at *; omega)) ⟨hs.2.2.1, hs.2.2.2⟩) rfl (fun h => ?_) (fun h => ?_) <;> (conv => whnf)) | (exact trivial) | (refine And.intro rfl ?_; conv => whnf) | (refine AB.mk (fun h => ?_) (fun h => ?_) <;> (conv => whnf)) | (with_reducible_and_instances rfl) | (exact (rfl : AP.tup _ = AP.tup _)))
  all_goals
    refine rI_of ?_
    first
      | omega
      | (simp only [decide_eq_true_eq, decide_eq_false_iff_not, DDisk.cnt] at * <;> omega)
set_option maxHeartbeats 2000000 in
theorem szTwo_p (x : DTwo) (left : Int) (h0 : 0 ≤ left) (h1 : left ≤ 1048576) (hs : DTwo.small 9223372036854775807 x) : PCall av 41 [.agg x.ds, pI left] (rI (max (left - x.cnt) (-1))) := by
  refine pcall_of av_ok Tryz.func41 rfl Tryz.call41 Tryz.ntmps41 (congrArg Array.toList Tryz.results41) fun S => ?_; conv => whnf
  repeat' (first | (refine AWP.seq ?_) | ((first | refine AWP.region av_ok ?_ | refine AWP.ret ?_ | refine AWP.skip ?_ | refine AWP.exit ?_ | refine AWP.block ?_ | refine AWP.cond ?_ | refine AB.tt ?_ | refine AB.ff ?_); conv => whnf) | ((first | refine AB.ofT (by assumption) ?_ | refine AB.ofF (by assumption) ?_); conv => whnf) | (refine ACall.sz (szDisk_p x.a _ (by first | omega | (simp only [decide_eq_true_eq, decide_eq_false_iff_not, List.length_map] at *; omega)) (by first | omega | (simp only [decide_eq_true_eq, decide_eq_false_iff_not, List.length_map] at *; omega)) hs.1) rfl (fun h => ?_) (fun h => ?_) <;> (conv => whnf)) | (refine ACall.sz (szDisk_p x.b _ (by first | omega | (simp only [decide_eq_true_eq, decide_eq_false_iff_not, List.length_map] at *; omega)) (by first | omega | (simp only [decide_eq_true_eq, decide_eq_false_iff_not, List.length_map] at *; omega)) hs.2) rfl (fun h => ?_) (fun h => ?_) <;> (conv => whnf)) | (exact trivial) | (refine And.intro rfl ?_; conv => whnf) | (refine AB.mk (fun h => ?_) (fun h => ?_) <;> (conv => whnf)) | (with_reducible_and_instances rfl) | (exact (rfl : AP.tup _ = AP.tup _)))
  all_goals
    refine rI_of ?_
    first
      | omega
      | (simp only [decide_eq_true_eq, decide_eq_false_iff_not, DTwo.cnt] at * <;> omega)
theorem szMarkS_p (l : (List DMark)) (left : Int) (h0 : 0 ≤ left) (h1 : left ≤ 1048576) (hs : l.length ≤ 9223372036854775807) : PCall av 44 [.one (.sl (l.map DMark.ds)), pI left] (rI (max (left - l.length) (-1))) := by
  refine pcall_of av_ok Tryz.func44 rfl Tryz.call44 Tryz.ntmps44 (congrArg Array.toList Tryz.results44) fun S => ?_; conv => whnf
  repeat' (first | (refine AWP.seq ?_) | ((first | refine AWP.region av_ok ?_ | refine AWP.ret ?_ | refine AWP.skip ?_ | refine AWP.exit ?_ | refine AWP.block ?_ | refine AWP.cond ?_ | refine AB.tt ?_ | refine AB.ff ?_); conv => whnf) | (refine AW.i64 (n := _ - _) (by first | omega | (simp only [decide_eq_true_eq, decide_eq_false_iff_not, List.length_map] at *; omega)) (by first | omega | (simp only [decide_eq_true_eq, decide_eq_false_iff_not, List.length_map] at *; omega)) ?_; conv => whnf) | ((first | refine AB.ofT (by assumption) ?_ | refine AB.ofF (by assumption) ?_); conv => whnf) | (exact trivial) | (refine And.intro rfl ?_; conv => whnf) | (refine AB.mk (fun h => ?_) (fun h => ?_) <;> (conv => whnf)) | (with_reducible_and_instances rfl) | (exact (rfl : AP.tup _ = AP.tup _)))
  all_goals
    refine rI_of ?_
    simp only [decide_eq_true_eq, decide_eq_false_iff_not, List.length_map] at *
    omega
set_option maxHeartbeats 2000000 in
theorem szHead_p (x : DHead) (left : Int) (h0 : 0 ≤ left) (h1 : left ≤ 1048576) (hs : DHead.small 9223372036854775807 x) : PCall av 42 [.agg x.ds, pI left] (rI (max (left - x.cnt) (-1))) := by
  refine pcall_of av_ok Tryz.func42 rfl Tryz.call42 Tryz.ntmps42 (congrArg Array.toList Tryz.results42) fun S => ?_; conv => whnf
  repeat' (first | (refine AWP.seq ?_) | ((first | refine AWP.region av_ok ?_ | refine AWP.ret ?_ | refine AWP.skip ?_ | refine AWP.exit ?_ | refine AWP.block ?_ | refine AWP.cond ?_ | refine AB.tt ?_ | refine AB.ff ?_); conv => whnf) | ((first | refine AB.ofT (by assumption) ?_ | refine AB.ofF (by assumption) ?_); conv => whnf) | (refine ACall.sz (szMarkS_p x.seen _ (by first | omega | (simp only [decide_eq_true_eq, decide_eq_false_iff_not, List.length_map] at *; omega)) (by first | omega | (simp only [decide_eq_true_eq, decide_eq_false_iff_not, List.length_map] at *; omega)) hs) rfl (fun h => ?_) (fun h => ?_) <;> (conv => whnf)) | (exact trivial) | (refine And.intro rfl ?_; conv => whnf) | (refine AB.mk (fun h => ?_) (fun h => ?_) <;> (conv => whnf)) | (with_reducible_and_instances rfl) | (exact (rfl : AP.tup _ = AP.tup _)))
  all_goals
    refine rI_of ?_
    first
      | omega
      | (simp only [decide_eq_true_eq, decide_eq_false_iff_not, DHead.cnt] at * <;> omega)
theorem szEntryS_p (l : (List DEntry)) (left : Int) (h0 : 0 ≤ left) (h1 : left ≤ 1048576) (hs : l.length ≤ 9223372036854775807) : PCall av 93 [.one (.sl (l.map DEntry.ds)), pI left] (rI (max (left - l.length) (-1))) := by
  refine pcall_of av_ok Tryz.func93 rfl Tryz.call93 Tryz.ntmps93 (congrArg Array.toList Tryz.results93) fun S => ?_; conv => whnf
  repeat' (first | (refine AWP.seq ?_) | ((first | refine AWP.region av_ok ?_ | refine AWP.ret ?_ | refine AWP.skip ?_ | refine AWP.exit ?_ | refine AWP.block ?_ | refine AWP.cond ?_ | refine AB.tt ?_ | refine AB.ff ?_); conv => whnf) | (refine AW.i64 (n := _ - _) (by first | omega | (simp only [decide_eq_true_eq, decide_eq_false_iff_not, List.length_map] at *; omega)) (by first | omega | (simp only [decide_eq_true_eq, decide_eq_false_iff_not, List.length_map] at *; omega)) ?_; conv => whnf) | ((first | refine AB.ofT (by assumption) ?_ | refine AB.ofF (by assumption) ?_); conv => whnf) | (exact trivial) | (refine And.intro rfl ?_; conv => whnf) | (refine AB.mk (fun h => ?_) (fun h => ?_) <;> (conv => whnf)) | (with_reducible_and_instances rfl) | (exact (rfl : AP.tup _ = AP.tup _)))
  all_goals
    refine rI_of ?_
    simp only [decide_eq_true_eq, decide_eq_false_iff_not, List.length_map] at *
    omega
set_option maxHeartbeats 2000000 in
theorem szBook_p (x : DBook) (left : Int) (h0 : 0 ≤ left) (h1 : left ≤ 1048576) (hs : DBook.small 9223372036854775807 x) : PCall av 43 [.agg x.ds, pI left] (rI (max (left - x.cnt) (-1))) := by
  refine pcall_of av_ok Tryz.func43 rfl Tryz.call43 Tryz.ntmps43 (congrArg Array.toList Tryz.results43) fun S => ?_; conv => whnf
  repeat' (first | (refine AWP.seq ?_) | ((first | refine AWP.region av_ok ?_ | refine AWP.ret ?_ | refine AWP.skip ?_ | refine AWP.exit ?_ | refine AWP.block ?_ | refine AWP.cond ?_ | refine AB.tt ?_ | refine AB.ff ?_); conv => whnf) | ((first | refine AB.ofT (by assumption) ?_ | refine AB.ofF (by assumption) ?_); conv => whnf) | (refine ACall.sz (szEntryS_p x.entries _ (by first | omega | (simp only [decide_eq_true_eq, decide_eq_false_iff_not, List.length_map] at *; omega)) (by first | omega | (simp only [decide_eq_true_eq, decide_eq_false_iff_not, List.length_map] at *; omega)) hs) rfl (fun h => ?_) (fun h => ?_) <;> (conv => whnf)) | (exact trivial) | (refine And.intro rfl ?_; conv => whnf) | (refine AB.mk (fun h => ?_) (fun h => ?_) <;> (conv => whnf)) | (with_reducible_and_instances rfl) | (exact (rfl : AP.tup _ = AP.tup _)))
  all_goals
    refine rI_of ?_
    first
      | omega
      | (simp only [decide_eq_true_eq, decide_eq_false_iff_not, DBook.cnt] at * <;> omega)
theorem szAckS_p (l : (List DAck)) (left : Int) (h0 : 0 ≤ left) (h1 : left ≤ 1048576) (hs : l.length ≤ 9223372036854775807) : PCall av 45 [.one (.sl (l.map DAck.ds)), pI left] (rI (max (left - l.length) (-1))) := by
  refine pcall_of av_ok Tryz.func45 rfl Tryz.call45 Tryz.ntmps45 (congrArg Array.toList Tryz.results45) fun S => ?_; conv => whnf
  repeat' (first | (refine AWP.seq ?_) | ((first | refine AWP.region av_ok ?_ | refine AWP.ret ?_ | refine AWP.skip ?_ | refine AWP.exit ?_ | refine AWP.block ?_ | refine AWP.cond ?_ | refine AB.tt ?_ | refine AB.ff ?_); conv => whnf) | (refine AW.i64 (n := _ - _) (by first | omega | (simp only [decide_eq_true_eq, decide_eq_false_iff_not, List.length_map] at *; omega)) (by first | omega | (simp only [decide_eq_true_eq, decide_eq_false_iff_not, List.length_map] at *; omega)) ?_; conv => whnf) | ((first | refine AB.ofT (by assumption) ?_ | refine AB.ofF (by assumption) ?_); conv => whnf) | (exact trivial) | (refine And.intro rfl ?_; conv => whnf) | (refine AB.mk (fun h => ?_) (fun h => ?_) <;> (conv => whnf)) | (with_reducible_and_instances rfl) | (exact (rfl : AP.tup _ = AP.tup _)))
  all_goals
    refine rI_of ?_
    simp only [decide_eq_true_eq, decide_eq_false_iff_not, List.length_map] at *
    omega
set_option maxHeartbeats 2000000 in
theorem szLogNode_p (x : DLogNode) (left : Int) (h0 : 0 ≤ left) (h1 : left ≤ 1048576) (hs : DLogNode.small 9223372036854775807 x) : PCall av 15 [.agg x.ds, pI left] (rI (max (left - x.cnt) (-1))) := by
  refine pcall_of av_ok Tryz.func15 rfl Tryz.call15 Tryz.ntmps15 (congrArg Array.toList Tryz.results15) fun S => ?_; conv => whnf
  repeat' (first | (refine AWP.seq ?_) | ((first | refine AWP.region av_ok ?_ | refine AWP.ret ?_ | refine AWP.skip ?_ | refine AWP.exit ?_ | refine AWP.block ?_ | refine AWP.cond ?_ | refine AB.tt ?_ | refine AB.ff ?_); conv => whnf) | ((first | refine AB.ofT (by assumption) ?_ | refine AB.ofF (by assumption) ?_); conv => whnf) | (refine ACall.sz (szTwo_p x.two _ (by first | omega | (simp only [decide_eq_true_eq, decide_eq_false_iff_not, List.length_map] at *; omega)) (by first | omega | (simp only [decide_eq_true_eq, decide_eq_false_iff_not, List.length_map] at *; omega)) hs.1) rfl (fun h => ?_) (fun h => ?_) <;> (conv => whnf)) | (refine ACall.sz (szHead_p x.head _ (by first | omega | (simp only [decide_eq_true_eq, decide_eq_false_iff_not, List.length_map] at *; omega)) (by first | omega | (simp only [decide_eq_true_eq, decide_eq_false_iff_not, List.length_map] at *; omega)) hs.2.1) rfl (fun h => ?_) (fun h => ?_) <;> (conv => whnf)) | (refine ACall.sz (szHead_p x.nxt _ (by first | omega | (simp only [decide_eq_true_eq, decide_eq_false_iff_not, List.length_map] at *; omega)) (by first | omega | (simp only [decide_eq_true_eq, decide_eq_false_iff_not, List.length_map] at *; omega)) hs.2.2.1) rfl (fun h => ?_) (fun h => ?_) <;> (conv => whnf)) | (refine ACall.sz (szBook_p x.book _ (by first | omega | (simp only [decide_eq_true_eq, decide_eq_false_iff_not, List.length_map] at *; omega)) (by first | omega | (simp only [decide_eq_true_eq, decide_eq_false_iff_not, List.length_map] at *; omega)) hs.2.2.2.1) rfl (fun h => ?_) (fun h => ?_) <;> (conv => whnf)) | (refine ACall.sz (szMarkS_p x.seen _ (by first | omega | (simp only [decide_eq_true_eq, decide_eq_false_iff_not, List.length_map] at *; omega)) (by first | omega | (simp only [decide_eq_true_eq, decide_eq_false_iff_not, List.length_map] at *; omega)) hs.2.2.2.2.1) rfl (fun h => ?_) (fun h => ?_) <;> (conv => whnf)) | (refine ACall.sz (szAckS_p x.owe _ (by first | omega | (simp only [decide_eq_true_eq, decide_eq_false_iff_not, List.length_map] at *; omega)) (by first | omega | (simp only [decide_eq_true_eq, decide_eq_false_iff_not, List.length_map] at *; omega)) hs.2.2.2.2.2) rfl (fun h => ?_) (fun h => ?_) <;> (conv => whnf)) | (exact trivial) | (refine And.intro rfl ?_; conv => whnf) | (refine AB.mk (fun h => ?_) (fun h => ?_) <;> (conv => whnf)) | (with_reducible_and_instances rfl) | (exact (rfl : AP.tup _ = AP.tup _)))
  all_goals
    refine rI_of ?_
    first
      | omega
      | (simp only [decide_eq_true_eq, decide_eq_false_iff_not, DLogNode.cnt] at * <;> omega)
theorem szPairS_p (l : (List DPair)) (left : Int) (h0 : 0 ≤ left) (h1 : left ≤ 1048576) (hs : l.length ≤ 9223372036854775807) : PCall av 96 [.one (.sl (l.map DPair.ds)), pI left] (rI (max (left - l.length) (-1))) := by
  refine pcall_of av_ok Tryz.func96 rfl Tryz.call96 Tryz.ntmps96 (congrArg Array.toList Tryz.results96) fun S => ?_; conv => whnf
  repeat' (first | (refine AWP.seq ?_) | ((first | refine AWP.region av_ok ?_ | refine AWP.ret ?_ | refine AWP.skip ?_ | refine AWP.exit ?_ | refine AWP.block ?_ | refine AWP.cond ?_ | refine AB.tt ?_ | refine AB.ff ?_); conv => whnf) | (refine AW.i64 (n := _ - _) (by first | omega | (simp only [decide_eq_true_eq, decide_eq_false_iff_not, List.length_map] at *; omega)) (by first | omega | (simp only [decide_eq_true_eq, decide_eq_false_iff_not, List.length_map] at *; omega)) ?_; conv => whnf) | ((first | refine AB.ofT (by assumption) ?_ | refine AB.ofF (by assumption) ?_); conv => whnf) | (exact trivial) | (refine And.intro rfl ?_; conv => whnf) | (refine AB.mk (fun h => ?_) (fun h => ?_) <;> (conv => whnf)) | (with_reducible_and_instances rfl) | (exact (rfl : AP.tup _ = AP.tup _)))
  all_goals
    refine rI_of ?_
    simp only [decide_eq_true_eq, decide_eq_false_iff_not, List.length_map] at *
    omega
theorem szJobS_p (l : (List DJob)) (left : Int) (h0 : 0 ≤ left) (h1 : left ≤ 1048576) (hs : l.length ≤ 9223372036854775807) : PCall av 97 [.one (.sl (l.map DJob.ds)), pI left] (rI (max (left - l.length) (-1))) := by
  refine pcall_of av_ok Tryz.func97 rfl Tryz.call97 Tryz.ntmps97 (congrArg Array.toList Tryz.results97) fun S => ?_; conv => whnf
  repeat' (first | (refine AWP.seq ?_) | ((first | refine AWP.region av_ok ?_ | refine AWP.ret ?_ | refine AWP.skip ?_ | refine AWP.exit ?_ | refine AWP.block ?_ | refine AWP.cond ?_ | refine AB.tt ?_ | refine AB.ff ?_); conv => whnf) | (refine AW.i64 (n := _ - _) (by first | omega | (simp only [decide_eq_true_eq, decide_eq_false_iff_not, List.length_map] at *; omega)) (by first | omega | (simp only [decide_eq_true_eq, decide_eq_false_iff_not, List.length_map] at *; omega)) ?_; conv => whnf) | ((first | refine AB.ofT (by assumption) ?_ | refine AB.ofF (by assumption) ?_); conv => whnf) | (exact trivial) | (refine And.intro rfl ?_; conv => whnf) | (refine AB.mk (fun h => ?_) (fun h => ?_) <;> (conv => whnf)) | (with_reducible_and_instances rfl) | (exact (rfl : AP.tup _ = AP.tup _)))
  all_goals
    refine rI_of ?_
    simp only [decide_eq_true_eq, decide_eq_false_iff_not, List.length_map] at *
    omega
set_option maxHeartbeats 2000000 in
theorem szState_p (x : DState) (left : Int) (h0 : 0 ≤ left) (h1 : left ≤ 1048576) (hs : DState.small 9223372036854775807 x) : PCall av 47 [.agg x.ds, pI left] (rI (max (left - x.cnt) (-1))) := by
  refine pcall_of av_ok Tryz.func47 rfl Tryz.call47 Tryz.ntmps47 (congrArg Array.toList Tryz.results47) fun S => ?_; conv => whnf
  repeat' (first | (refine AWP.seq ?_) | ((first | refine AWP.region av_ok ?_ | refine AWP.ret ?_ | refine AWP.skip ?_ | refine AWP.exit ?_ | refine AWP.block ?_ | refine AWP.cond ?_ | refine AB.tt ?_ | refine AB.ff ?_); conv => whnf) | ((first | refine AB.ofT (by assumption) ?_ | refine AB.ofF (by assumption) ?_); conv => whnf) | (refine ACall.sz (szPairS_p x.pairs _ (by first | omega | (simp only [decide_eq_true_eq, decide_eq_false_iff_not, List.length_map] at *; omega)) (by first | omega | (simp only [decide_eq_true_eq, decide_eq_false_iff_not, List.length_map] at *; omega)) hs.1) rfl (fun h => ?_) (fun h => ?_) <;> (conv => whnf)) | (refine ACall.sz (szJobS_p x.jobs _ (by first | omega | (simp only [decide_eq_true_eq, decide_eq_false_iff_not, List.length_map] at *; omega)) (by first | omega | (simp only [decide_eq_true_eq, decide_eq_false_iff_not, List.length_map] at *; omega)) hs.2) rfl (fun h => ?_) (fun h => ?_) <;> (conv => whnf)) | (exact trivial) | (refine And.intro rfl ?_; conv => whnf) | (refine AB.mk (fun h => ?_) (fun h => ?_) <;> (conv => whnf)) | (with_reducible_and_instances rfl) | (exact (rfl : AP.tup _ = AP.tup _)))
  all_goals
    refine rI_of ?_
    first
      | omega
      | (simp only [decide_eq_true_eq, decide_eq_false_iff_not, DState.cnt] at * <;> omega)
set_option maxHeartbeats 2000000 in
theorem szStore_p (x : DStore) (left : Int) (h0 : 0 ≤ left) (h1 : left ≤ 1048576) (hs : DStore.small 9223372036854775807 x) : PCall av 16 [.agg x.ds, pI left] (rI (max (left - x.cnt) (-1))) := by
  refine pcall_of av_ok Tryz.func16 rfl Tryz.call16 Tryz.ntmps16 (congrArg Array.toList Tryz.results16) fun S => ?_; conv => whnf
  repeat' (first | (refine AWP.seq ?_) | ((first | refine AWP.region av_ok ?_ | refine AWP.ret ?_ | refine AWP.skip ?_ | refine AWP.exit ?_ | refine AWP.block ?_ | refine AWP.cond ?_ | refine AB.tt ?_ | refine AB.ff ?_); conv => whnf) | ((first | refine AB.ofT (by assumption) ?_ | refine AB.ofF (by assumption) ?_); conv => whnf) | (refine ACall.sz (szDisk_p x.disk _ (by first | omega | (simp only [decide_eq_true_eq, decide_eq_false_iff_not, List.length_map] at *; omega)) (by first | omega | (simp only [decide_eq_true_eq, decide_eq_false_iff_not, List.length_map] at *; omega)) hs.1) rfl (fun h => ?_) (fun h => ?_) <;> (conv => whnf)) | (refine ACall.sz (szState_p x.state _ (by first | omega | (simp only [decide_eq_true_eq, decide_eq_false_iff_not, List.length_map] at *; omega)) (by first | omega | (simp only [decide_eq_true_eq, decide_eq_false_iff_not, List.length_map] at *; omega)) hs.2) rfl (fun h => ?_) (fun h => ?_) <;> (conv => whnf)) | (exact trivial) | (refine And.intro rfl ?_; conv => whnf) | (refine AB.mk (fun h => ?_) (fun h => ?_) <;> (conv => whnf)) | (with_reducible_and_instances rfl) | (exact (rfl : AP.tup _ = AP.tup _)))
  all_goals
    refine rI_of ?_
    first
      | omega
      | (simp only [decide_eq_true_eq, decide_eq_false_iff_not, DStore.cnt] at * <;> omega)
theorem szDueS_p (l : (List DDue)) (left : Int) (h0 : 0 ≤ left) (h1 : left ≤ 1048576) (hs : l.length ≤ 9223372036854775807) : PCall av 153 [.one (.sl (l.map DDue.ds)), pI left] (rI (max (left - l.length) (-1))) := by
  refine pcall_of av_ok Tryz.func153 rfl Tryz.call153 Tryz.ntmps153 (congrArg Array.toList Tryz.results153) fun S => ?_; conv => whnf
  repeat' (first | (refine AWP.seq ?_) | ((first | refine AWP.region av_ok ?_ | refine AWP.ret ?_ | refine AWP.skip ?_ | refine AWP.exit ?_ | refine AWP.block ?_ | refine AWP.cond ?_ | refine AB.tt ?_ | refine AB.ff ?_); conv => whnf) | (refine AW.i64 (n := _ - _) (by first | omega | (simp only [decide_eq_true_eq, decide_eq_false_iff_not, List.length_map] at *; omega)) (by first | omega | (simp only [decide_eq_true_eq, decide_eq_false_iff_not, List.length_map] at *; omega)) ?_; conv => whnf) | ((first | refine AB.ofT (by assumption) ?_ | refine AB.ofF (by assumption) ?_); conv => whnf) | (exact trivial) | (refine And.intro rfl ?_; conv => whnf) | (refine AB.mk (fun h => ?_) (fun h => ?_) <;> (conv => whnf)) | (with_reducible_and_instances rfl) | (exact (rfl : AP.tup _ = AP.tup _)))
  all_goals
    refine rI_of ?_
    simp only [decide_eq_true_eq, decide_eq_false_iff_not, List.length_map] at *
    omega
set_option maxHeartbeats 2000000 in
theorem szJobs_p (x : DJobs) (left : Int) (h0 : 0 ≤ left) (h1 : left ≤ 1048576) (hs : DJobs.small 9223372036854775807 x) : PCall av 98 [.agg x.ds, pI left] (rI (max (left - x.cnt) (-1))) := by
  refine pcall_of av_ok Tryz.func98 rfl Tryz.call98 Tryz.ntmps98 (congrArg Array.toList Tryz.results98) fun S => ?_; conv => whnf
  repeat' (first | (refine AWP.seq ?_) | ((first | refine AWP.region av_ok ?_ | refine AWP.ret ?_ | refine AWP.skip ?_ | refine AWP.exit ?_ | refine AWP.block ?_ | refine AWP.cond ?_ | refine AB.tt ?_ | refine AB.ff ?_); conv => whnf) | ((first | refine AB.ofT (by assumption) ?_ | refine AB.ofF (by assumption) ?_); conv => whnf) | (refine ACall.sz (szDueS_p x.opens _ (by first | omega | (simp only [decide_eq_true_eq, decide_eq_false_iff_not, List.length_map] at *; omega)) (by first | omega | (simp only [decide_eq_true_eq, decide_eq_false_iff_not, List.length_map] at *; omega)) hs) rfl (fun h => ?_) (fun h => ?_) <;> (conv => whnf)) | (exact trivial) | (refine And.intro rfl ?_; conv => whnf) | (refine AB.mk (fun h => ?_) (fun h => ?_) <;> (conv => whnf)) | (with_reducible_and_instances rfl) | (exact (rfl : AP.tup _ = AP.tup _)))
  all_goals
    refine rI_of ?_
    first
      | omega
      | (simp only [decide_eq_true_eq, decide_eq_false_iff_not, DJobs.cnt] at * <;> omega)
set_option maxHeartbeats 2000000 in
theorem szView_p (x : DView) (left : Int) (h0 : 0 ≤ left) (h1 : left ≤ 1048576) (hs : DView.small 9223372036854775807 x) : PCall av 48 [.agg x.ds, pI left] (rI (max (left - x.cnt) (-1))) := by
  refine pcall_of av_ok Tryz.func48 rfl Tryz.call48 Tryz.ntmps48 (congrArg Array.toList Tryz.results48) fun S => ?_; conv => whnf
  repeat' (first | (refine AWP.seq ?_) | ((first | refine AWP.region av_ok ?_ | refine AWP.ret ?_ | refine AWP.skip ?_ | refine AWP.exit ?_ | refine AWP.block ?_ | refine AWP.cond ?_ | refine AB.tt ?_ | refine AB.ff ?_); conv => whnf) | ((first | refine AB.ofT (by assumption) ?_ | refine AB.ofF (by assumption) ?_); conv => whnf) | (refine ACall.sz (szJobs_p x.jobs _ (by first | omega | (simp only [decide_eq_true_eq, decide_eq_false_iff_not, List.length_map] at *; omega)) (by first | omega | (simp only [decide_eq_true_eq, decide_eq_false_iff_not, List.length_map] at *; omega)) hs) rfl (fun h => ?_) (fun h => ?_) <;> (conv => whnf)) | (exact trivial) | (refine And.intro rfl ?_; conv => whnf) | (refine AB.mk (fun h => ?_) (fun h => ?_) <;> (conv => whnf)) | (with_reducible_and_instances rfl) | (exact (rfl : AP.tup _ = AP.tup _)))
  all_goals
    refine rI_of ?_
    first
      | omega
      | (simp only [decide_eq_true_eq, decide_eq_false_iff_not, DView.cnt] at * <;> omega)
set_option maxHeartbeats 2000000 in
theorem szSched_p (x : DSched) (left : Int) (h0 : 0 ≤ left) (h1 : left ≤ 1048576) (hs : DSched.small 9223372036854775807 x) : PCall av 17 [.agg x.ds, pI left] (rI (max (left - x.cnt) (-1))) := by
  refine pcall_of av_ok Tryz.func17 rfl Tryz.call17 Tryz.ntmps17 (congrArg Array.toList Tryz.results17) fun S => ?_; conv => whnf
  repeat' (first | (refine AWP.seq ?_) | ((first | refine AWP.region av_ok ?_ | refine AWP.ret ?_ | refine AWP.skip ?_ | refine AWP.exit ?_ | refine AWP.block ?_ | refine AWP.cond ?_ | refine AB.tt ?_ | refine AB.ff ?_); conv => whnf) | ((first | refine AB.ofT (by assumption) ?_ | refine AB.ofF (by assumption) ?_); conv => whnf) | (refine ACall.sz (szView_p x.view _ (by first | omega | (simp only [decide_eq_true_eq, decide_eq_false_iff_not, List.length_map] at *; omega)) (by first | omega | (simp only [decide_eq_true_eq, decide_eq_false_iff_not, List.length_map] at *; omega)) hs) rfl (fun h => ?_) (fun h => ?_) <;> (conv => whnf)) | (exact trivial) | (refine And.intro rfl ?_; conv => whnf) | (refine AB.mk (fun h => ?_) (fun h => ?_) <;> (conv => whnf)) | (with_reducible_and_instances rfl) | (exact (rfl : AP.tup _ = AP.tup _)))
  all_goals
    refine rI_of ?_
    first
      | omega
      | (simp only [decide_eq_true_eq, decide_eq_false_iff_not, DSched.cnt] at * <;> omega)
theorem szWantS_p (l : (List DWant)) (left : Int) (h0 : 0 ≤ left) (h1 : left ≤ 1048576) (hs : l.length ≤ 9223372036854775807) : PCall av 49 [.one (.sl (l.map DWant.ds)), pI left] (rI (max (left - l.length) (-1))) := by
  refine pcall_of av_ok Tryz.func49 rfl Tryz.call49 Tryz.ntmps49 (congrArg Array.toList Tryz.results49) fun S => ?_; conv => whnf
  repeat' (first | (refine AWP.seq ?_) | ((first | refine AWP.region av_ok ?_ | refine AWP.ret ?_ | refine AWP.skip ?_ | refine AWP.exit ?_ | refine AWP.block ?_ | refine AWP.cond ?_ | refine AB.tt ?_ | refine AB.ff ?_); conv => whnf) | (refine AW.i64 (n := _ - _) (by first | omega | (simp only [decide_eq_true_eq, decide_eq_false_iff_not, List.length_map] at *; omega)) (by first | omega | (simp only [decide_eq_true_eq, decide_eq_false_iff_not, List.length_map] at *; omega)) ?_; conv => whnf) | ((first | refine AB.ofT (by assumption) ?_ | refine AB.ofF (by assumption) ?_); conv => whnf) | (exact trivial) | (refine And.intro rfl ?_; conv => whnf) | (refine AB.mk (fun h => ?_) (fun h => ?_) <;> (conv => whnf)) | (with_reducible_and_instances rfl) | (exact (rfl : AP.tup _ = AP.tup _)))
  all_goals
    refine rI_of ?_
    simp only [decide_eq_true_eq, decide_eq_false_iff_not, List.length_map] at *
    omega
theorem szGotS_p (l : (List DGot)) (left : Int) (h0 : 0 ≤ left) (h1 : left ≤ 1048576) (hs : l.length ≤ 9223372036854775807) : PCall av 50 [.one (.sl (l.map DGot.ds)), pI left] (rI (max (left - l.length) (-1))) := by
  refine pcall_of av_ok Tryz.func50 rfl Tryz.call50 Tryz.ntmps50 (congrArg Array.toList Tryz.results50) fun S => ?_; conv => whnf
  repeat' (first | (refine AWP.seq ?_) | ((first | refine AWP.region av_ok ?_ | refine AWP.ret ?_ | refine AWP.skip ?_ | refine AWP.exit ?_ | refine AWP.block ?_ | refine AWP.cond ?_ | refine AB.tt ?_ | refine AB.ff ?_); conv => whnf) | (refine AW.i64 (n := _ - _) (by first | omega | (simp only [decide_eq_true_eq, decide_eq_false_iff_not, List.length_map] at *; omega)) (by first | omega | (simp only [decide_eq_true_eq, decide_eq_false_iff_not, List.length_map] at *; omega)) ?_; conv => whnf) | ((first | refine AB.ofT (by assumption) ?_ | refine AB.ofF (by assumption) ?_); conv => whnf) | (exact trivial) | (refine And.intro rfl ?_; conv => whnf) | (refine AB.mk (fun h => ?_) (fun h => ?_) <;> (conv => whnf)) | (with_reducible_and_instances rfl) | (exact (rfl : AP.tup _ = AP.tup _)))
  all_goals
    refine rI_of ?_
    simp only [decide_eq_true_eq, decide_eq_false_iff_not, List.length_map] at *
    omega
set_option maxHeartbeats 2000000 in
theorem szClient_p (x : DClient) (left : Int) (h0 : 0 ≤ left) (h1 : left ≤ 1048576) (hs : DClient.small 9223372036854775807 x) : PCall av 18 [.agg x.ds, pI left] (rI (max (left - x.cnt) (-1))) := by
  refine pcall_of av_ok Tryz.func18 rfl Tryz.call18 Tryz.ntmps18 (congrArg Array.toList Tryz.results18) fun S => ?_; conv => whnf
  repeat' (first | (refine AWP.seq ?_) | ((first | refine AWP.region av_ok ?_ | refine AWP.ret ?_ | refine AWP.skip ?_ | refine AWP.exit ?_ | refine AWP.block ?_ | refine AWP.cond ?_ | refine AB.tt ?_ | refine AB.ff ?_); conv => whnf) | ((first | refine AB.ofT (by assumption) ?_ | refine AB.ofF (by assumption) ?_); conv => whnf) | (refine ACall.sz (szWantS_p x.todo _ (by first | omega | (simp only [decide_eq_true_eq, decide_eq_false_iff_not, List.length_map] at *; omega)) (by first | omega | (simp only [decide_eq_true_eq, decide_eq_false_iff_not, List.length_map] at *; omega)) hs.1) rfl (fun h => ?_) (fun h => ?_) <;> (conv => whnf)) | (refine ACall.sz (szGotS_p x.gots _ (by first | omega | (simp only [decide_eq_true_eq, decide_eq_false_iff_not, List.length_map] at *; omega)) (by first | omega | (simp only [decide_eq_true_eq, decide_eq_false_iff_not, List.length_map] at *; omega)) hs.2) rfl (fun h => ?_) (fun h => ?_) <;> (conv => whnf)) | (exact trivial) | (refine And.intro rfl ?_; conv => whnf) | (refine AB.mk (fun h => ?_) (fun h => ?_) <;> (conv => whnf)) | (with_reducible_and_instances rfl) | (exact (rfl : AP.tup _ = AP.tup _)))
  all_goals
    refine rI_of ?_
    first
      | omega
      | (simp only [decide_eq_true_eq, decide_eq_false_iff_not, DClient.cnt] at * <;> omega)
set_option maxHeartbeats 2000000 in
theorem szMsg_p (x : DMsg) (left : Int) (h0 : 0 ≤ left) (h1 : left ≤ 1048576) (hs : DMsg.small 9223372036854775807 x) : PCall av 99 [.agg x.ds, pI left] (rI (max (left - x.cnt) (-1))) := by
  refine pcall_of av_ok Tryz.func99 rfl Tryz.call99 Tryz.ntmps99 (congrArg Array.toList Tryz.results99) fun S => ?_; conv => whnf
  repeat' (first | (refine AWP.seq ?_) | ((first | refine AWP.region av_ok ?_ | refine AWP.ret ?_ | refine AWP.skip ?_ | refine AWP.exit ?_ | refine AWP.block ?_ | refine AWP.cond ?_ | refine AB.tt ?_ | refine AB.ff ?_); conv => whnf) | ((first | refine AB.ofT (by assumption) ?_ | refine AB.ofF (by assumption) ?_); conv => whnf) | (refine ACall.sz (szInt64S_p x.row _ (by first | omega | (simp only [decide_eq_true_eq, decide_eq_false_iff_not, List.length_map] at *; omega)) (by first | omega | (simp only [decide_eq_true_eq, decide_eq_false_iff_not, List.length_map] at *; omega)) hs) rfl (fun h => ?_) (fun h => ?_) <;> (conv => whnf)) | (exact trivial) | (refine And.intro rfl ?_; conv => whnf) | (refine AB.mk (fun h => ?_) (fun h => ?_) <;> (conv => whnf)) | (with_reducible_and_instances rfl) | (exact (rfl : AP.tup _ = AP.tup _)))
  all_goals
    refine rI_of ?_
    first
      | omega
      | (simp only [decide_eq_true_eq, decide_eq_false_iff_not, DMsg.cnt] at * <;> omega)
theorem szMsgS_p (l : (List DMsg)) (left : Int) (h0 : 0 ≤ left) (h1 : left ≤ 1048576) (hs : l.length ≤ 9223372036854775807 ∧ ∀ y ∈ l, DMsg.small 9223372036854775807 y) : PCall av 51 [.one (.sl (l.map DMsg.ds)), pI left] (rI (max (left - cntS DMsg.cnt l) (-1))) := by
  refine pcall_of av_ok Tryz.func51 rfl Tryz.call51 Tryz.ntmps51 (congrArg Array.toList Tryz.results51) fun S => ?_; conv => whnf
  have hlen := hs.1
  have hcl := cntS_len DMsg.cnt l
  repeat' (first | (refine AWP.seq ?_) | ((first | refine AWP.region av_ok ?_ | refine AWP.ret ?_ | refine AWP.skip ?_ | refine AWP.exit ?_ | refine AWP.block ?_ | refine AWP.cond ?_ | refine AB.tt ?_ | refine AB.ff ?_); conv => whnf) | (refine AW.i64 (n := _ - _) (by first | omega | (simp only [decide_eq_true_eq, decide_eq_false_iff_not, List.length_map] at *; omega)) (by first | omega | (simp only [decide_eq_true_eq, decide_eq_false_iff_not, List.length_map] at *; omega)) ?_; conv => whnf) | ((first | refine AB.ofT (by assumption) ?_ | refine AB.ofF (by assumption) ?_); conv => whnf) | (exact trivial) | (refine And.intro rfl ?_; conv => whnf) | (refine AB.mk (fun h => ?_) (fun h => ?_) <;> (conv => whnf)) | (with_reducible_and_instances rfl) | (exact (rfl : AP.tup _ = AP.tup _)))
  · refine rI_of ?_
    simp only [decide_eq_true_eq, decide_eq_false_iff_not, List.length_map] at *
    omega
  refine AWP.loopS (fun p : Nat × Int => p.1 ≤ l.length ∧ 0 ≤ p.2 ∧ p.2 = left - l.length + (p.1 : Int) - cntS DMsg.cnt (l.take p.1)) [1, 4, 5, 12, 13, 14, 15, 16, 17, 18, 19, 20, 21, 22, 23, 24, 25] (fun p => [(1, vI .i64 p.2), (5, vI .i64 (p.1 : Int))]) (fun _ => []) (fun p => l.length - p.1) (0, left - ((l.map DMsg.ds).length : Int)) ⟨by simp, (by first | omega | (simp only [decide_eq_true_eq, decide_eq_false_iff_not, List.length_map] at *; omega)), by simp [cntS]⟩ ?_ SubO.nil (fun p hR => ?_) <;> (conv => whnf)
  · repeat' (first | exact trivial | (refine ⟨rfl, ?_⟩; conv => whnf))
  · obtain ⟨k, v⟩ := p
    obtain ⟨hk, hv, he⟩ := hR
    simp only at hk hv he
    have htk := cntS_take DMsg.cnt l k
    have htl : (l.take k).length = k := by simp; omega
    repeat' (first | (refine AWP.seq ?_) | ((first | refine AWP.region av_ok ?_ | refine AWP.ret ?_ | refine AWP.skip ?_ | refine AWP.exit ?_ | refine AWP.block ?_ | refine AWP.cond ?_ | refine AB.tt ?_ | refine AB.ff ?_); conv => whnf) | ((first | refine AB.ofT (by assumption) ?_ | refine AB.ofF (by assumption) ?_); conv => whnf) | (refine AIx.mapF (by first | omega | (simp only [decide_eq_true_eq, decide_eq_false_iff_not, List.length_map] at *; omega)) (fun hlt => ?_); conv => whnf) | (refine ACall.pure (szMsg_p _ _ hv (by first | omega | (simp only [decide_eq_true_eq, decide_eq_false_iff_not, List.length_map] at *; omega)) (hs.2 _ (List.getElem_mem hlt))) rfl ?_; conv => whnf) | (refine AW.i64 (by first | omega | (simp only [decide_eq_true_eq, decide_eq_false_iff_not, List.length_map] at *; omega)) (by first | omega | (simp only [decide_eq_true_eq, decide_eq_false_iff_not, List.length_map] at *; omega)) ?_; conv => whnf) | (exact trivial) | (refine And.intro rfl ?_; conv => whnf) | (refine AB.mk (fun h => ?_) (fun h => ?_) <;> (conv => whnf)) | (with_reducible_and_instances rfl) | (exact (rfl : AP.tup _ = AP.tup _)))
    all_goals first
      | (have hsu := cntS_succ DMsg.cnt l k hlt
         have htk := cntS_take DMsg.cnt l (k + 1)
         have htl : (l.take (k + 1)).length = k + 1 := by simp; omega
         simp only [decide_eq_true_eq, decide_eq_false_iff_not, List.length_map] at *
         first
           | (refine rI_of ?_; omega)
           | (refine ANext.mk ⟨(k + 1, max (v - ((DMsg.cnt l[k] : Nat) : Int)) (-1)), ⟨by simp only; omega, by simp only; omega, by simp only; omega⟩, by simp only; omega, ?_, SubO.nil⟩; (conv => whnf); repeat' (first | exact trivial | (refine ⟨rfl, ?_⟩; conv => whnf))))
      | (have hkk : k = l.length := (by first | omega | (simp only [decide_eq_true_eq, decide_eq_false_iff_not, List.length_map] at *; omega))
         subst hkk
         refine rI_of ?_
         rw [List.take_length] at he
         omega)
theorem szLinkS_p (l : (List DLink)) (left : Int) (h0 : 0 ≤ left) (h1 : left ≤ 1048576) (hs : l.length ≤ 9223372036854775807) : PCall av 52 [.one (.sl (l.map DLink.ds)), pI left] (rI (max (left - l.length) (-1))) := by
  refine pcall_of av_ok Tryz.func52 rfl Tryz.call52 Tryz.ntmps52 (congrArg Array.toList Tryz.results52) fun S => ?_; conv => whnf
  repeat' (first | (refine AWP.seq ?_) | ((first | refine AWP.region av_ok ?_ | refine AWP.ret ?_ | refine AWP.skip ?_ | refine AWP.exit ?_ | refine AWP.block ?_ | refine AWP.cond ?_ | refine AB.tt ?_ | refine AB.ff ?_); conv => whnf) | (refine AW.i64 (n := _ - _) (by first | omega | (simp only [decide_eq_true_eq, decide_eq_false_iff_not, List.length_map] at *; omega)) (by first | omega | (simp only [decide_eq_true_eq, decide_eq_false_iff_not, List.length_map] at *; omega)) ?_; conv => whnf) | ((first | refine AB.ofT (by assumption) ?_ | refine AB.ofF (by assumption) ?_); conv => whnf) | (exact trivial) | (refine And.intro rfl ?_; conv => whnf) | (refine AB.mk (fun h => ?_) (fun h => ?_) <;> (conv => whnf)) | (with_reducible_and_instances rfl) | (exact (rfl : AP.tup _ = AP.tup _)))
  all_goals
    refine rI_of ?_
    simp only [decide_eq_true_eq, decide_eq_false_iff_not, List.length_map] at *
    omega
set_option maxHeartbeats 2000000 in
theorem szNet_p (x : DNet) (left : Int) (h0 : 0 ≤ left) (h1 : left ≤ 1048576) (hs : DNet.small 9223372036854775807 x) : PCall av 19 [.agg x.ds, pI left] (rI (max (left - x.cnt) (-1))) := by
  refine pcall_of av_ok Tryz.func19 rfl Tryz.call19 Tryz.ntmps19 (congrArg Array.toList Tryz.results19) fun S => ?_; conv => whnf
  repeat' (first | (refine AWP.seq ?_) | ((first | refine AWP.region av_ok ?_ | refine AWP.ret ?_ | refine AWP.skip ?_ | refine AWP.exit ?_ | refine AWP.block ?_ | refine AWP.cond ?_ | refine AB.tt ?_ | refine AB.ff ?_); conv => whnf) | ((first | refine AB.ofT (by assumption) ?_ | refine AB.ofF (by assumption) ?_); conv => whnf) | (refine ACall.sz (szMsgS_p x.flight _ (by first | omega | (simp only [decide_eq_true_eq, decide_eq_false_iff_not, List.length_map] at *; omega)) (by first | omega | (simp only [decide_eq_true_eq, decide_eq_false_iff_not, List.length_map] at *; omega)) ⟨hs.1, hs.2.1⟩) rfl (fun h => ?_) (fun h => ?_) <;> (conv => whnf)) | (refine ACall.sz (szLinkS_p x.cuts _ (by first | omega | (simp only [decide_eq_true_eq, decide_eq_false_iff_not, List.length_map] at *; omega)) (by first | omega | (simp only [decide_eq_true_eq, decide_eq_false_iff_not, List.length_map] at *; omega)) hs.2.2) rfl (fun h => ?_) (fun h => ?_) <;> (conv => whnf)) | (exact trivial) | (refine And.intro rfl ?_; conv => whnf) | (refine AB.mk (fun h => ?_) (fun h => ?_) <;> (conv => whnf)) | (with_reducible_and_instances rfl) | (exact (rfl : AP.tup _ = AP.tup _)))
  all_goals
    refine rI_of ?_
    first
      | omega
      | (simp only [decide_eq_true_eq, decide_eq_false_iff_not, DNet.cnt] at * <;> omega)
theorem szBoolS_p (l : (List Bool)) (left : Int) (h0 : 0 ≤ left) (h1 : left ≤ 1048576) (hs : l.length ≤ 9223372036854775807) : PCall av 21 [.one (.sl (l.map eB)), pI left] (rI (max (left - l.length) (-1))) := by
  refine pcall_of av_ok Tryz.func21 rfl Tryz.call21 Tryz.ntmps21 (congrArg Array.toList Tryz.results21) fun S => ?_; conv => whnf
  repeat' (first | (refine AWP.seq ?_) | ((first | refine AWP.region av_ok ?_ | refine AWP.ret ?_ | refine AWP.skip ?_ | refine AWP.exit ?_ | refine AWP.block ?_ | refine AWP.cond ?_ | refine AB.tt ?_ | refine AB.ff ?_); conv => whnf) | (refine AW.i64 (n := _ - _) (by first | omega | (simp only [decide_eq_true_eq, decide_eq_false_iff_not, List.length_map] at *; omega)) (by first | omega | (simp only [decide_eq_true_eq, decide_eq_false_iff_not, List.length_map] at *; omega)) ?_; conv => whnf) | ((first | refine AB.ofT (by assumption) ?_ | refine AB.ofF (by assumption) ?_); conv => whnf) | (exact trivial) | (refine And.intro rfl ?_; conv => whnf) | (refine AB.mk (fun h => ?_) (fun h => ?_) <;> (conv => whnf)) | (with_reducible_and_instances rfl) | (exact (rfl : AP.tup _ = AP.tup _)))
  all_goals
    refine rI_of ?_
    simp only [decide_eq_true_eq, decide_eq_false_iff_not, List.length_map] at *
    omega
set_option maxHeartbeats 2000000 in
theorem szWorld_p (x : DWorld) (left : Int) (h0 : 0 ≤ left) (h1 : left ≤ 1048576) (hs : DWorld.small 9223372036854775807 x) : PCall av 6 [.agg x.ds, pI left] (rI (max (left - x.cnt) (-1))) := by
  refine pcall_of av_ok Tryz.func6 rfl Tryz.call6 Tryz.ntmps6 (congrArg Array.toList Tryz.results6) fun S => ?_; conv => whnf
  repeat' (first | (refine AWP.seq ?_) | ((first | refine AWP.region av_ok ?_ | refine AWP.ret ?_ | refine AWP.skip ?_ | refine AWP.exit ?_ | refine AWP.block ?_ | refine AWP.cond ?_ | refine AB.tt ?_ | refine AB.ff ?_); conv => whnf) | ((first | refine AB.ofT (by assumption) ?_ | refine AB.ofF (by assumption) ?_); conv => whnf) | (refine ACall.sz (szLogNode_p x.log _ (by first | omega | (simp only [decide_eq_true_eq, decide_eq_false_iff_not, List.length_map] at *; omega)) (by first | omega | (simp only [decide_eq_true_eq, decide_eq_false_iff_not, List.length_map] at *; omega)) hs.1) rfl (fun h => ?_) (fun h => ?_) <;> (conv => whnf)) | (refine ACall.sz (szStore_p x.store _ (by first | omega | (simp only [decide_eq_true_eq, decide_eq_false_iff_not, List.length_map] at *; omega)) (by first | omega | (simp only [decide_eq_true_eq, decide_eq_false_iff_not, List.length_map] at *; omega)) hs.2.1) rfl (fun h => ?_) (fun h => ?_) <;> (conv => whnf)) | (refine ACall.sz (szSched_p x.left _ (by first | omega | (simp only [decide_eq_true_eq, decide_eq_false_iff_not, List.length_map] at *; omega)) (by first | omega | (simp only [decide_eq_true_eq, decide_eq_false_iff_not, List.length_map] at *; omega)) hs.2.2.1) rfl (fun h => ?_) (fun h => ?_) <;> (conv => whnf)) | (refine ACall.sz (szSched_p x.right _ (by first | omega | (simp only [decide_eq_true_eq, decide_eq_false_iff_not, List.length_map] at *; omega)) (by first | omega | (simp only [decide_eq_true_eq, decide_eq_false_iff_not, List.length_map] at *; omega)) hs.2.2.2.1) rfl (fun h => ?_) (fun h => ?_) <;> (conv => whnf)) | (refine ACall.sz (szClient_p x.ann _ (by first | omega | (simp only [decide_eq_true_eq, decide_eq_false_iff_not, List.length_map] at *; omega)) (by first | omega | (simp only [decide_eq_true_eq, decide_eq_false_iff_not, List.length_map] at *; omega)) hs.2.2.2.2.1) rfl (fun h => ?_) (fun h => ?_) <;> (conv => whnf)) | (refine ACall.sz (szClient_p x.bob _ (by first | omega | (simp only [decide_eq_true_eq, decide_eq_false_iff_not, List.length_map] at *; omega)) (by first | omega | (simp only [decide_eq_true_eq, decide_eq_false_iff_not, List.length_map] at *; omega)) hs.2.2.2.2.2.1) rfl (fun h => ?_) (fun h => ?_) <;> (conv => whnf)) | (refine ACall.sz (szNet_p x.net _ (by first | omega | (simp only [decide_eq_true_eq, decide_eq_false_iff_not, List.length_map] at *; omega)) (by first | omega | (simp only [decide_eq_true_eq, decide_eq_false_iff_not, List.length_map] at *; omega)) hs.2.2.2.2.2.2.1) rfl (fun h => ?_) (fun h => ?_) <;> (conv => whnf)) | (refine ACall.sz (szInt64S_p x.clocks _ (by first | omega | (simp only [decide_eq_true_eq, decide_eq_false_iff_not, List.length_map] at *; omega)) (by first | omega | (simp only [decide_eq_true_eq, decide_eq_false_iff_not, List.length_map] at *; omega)) hs.2.2.2.2.2.2.2.1) rfl (fun h => ?_) (fun h => ?_) <;> (conv => whnf)) | (refine ACall.sz (szBoolS_p x.up _ (by first | omega | (simp only [decide_eq_true_eq, decide_eq_false_iff_not, List.length_map] at *; omega)) (by first | omega | (simp only [decide_eq_true_eq, decide_eq_false_iff_not, List.length_map] at *; omega)) hs.2.2.2.2.2.2.2.2) rfl (fun h => ?_) (fun h => ?_) <;> (conv => whnf)) | (exact trivial) | (refine And.intro rfl ?_; conv => whnf) | (refine AB.mk (fun h => ?_) (fun h => ?_) <;> (conv => whnf)) | (with_reducible_and_instances rfl) | (exact (rfl : AP.tup _ = AP.tup _)))
  all_goals
    refine rI_of ?_
    first
      | omega
      | (simp only [decide_eq_true_eq, decide_eq_false_iff_not, DWorld.cnt] at * <;> omega)
end Go.Proofs.YthmckpghadfeeaaGreat
