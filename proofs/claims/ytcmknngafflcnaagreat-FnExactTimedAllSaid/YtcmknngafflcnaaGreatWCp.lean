/- WCp -/
import Derived.Test.YtcmknngafflcnaaGreatJ18
import Derived.Test.YtcmknngafflcnaaGreatJ05
import Derived.Test.YtcmknngafflcnaaGreatJ07
import Derived.Test.YtcmknngafflcnaaGreatAwx
set_option linter.unusedVariables false
set_option linter.unusedSimpArgs false
set_option maxRecDepth 100000
namespace Go.Proofs.YtcmknngafflcnaaGreat
open Go.ChangeShapes Go.WideShapes Go.RowKit
theorem alW {xs : List (List AD)} {s : Nat} (h : ∀ x ∈ xs, x.length = s := by first | (intro y hy; obtain ⟨a, _, rfl⟩ := List.mem_map.1 hy; rfl) | (simp; done)) : ∀ x ∈ xs, x.length = s := h
theorem ua {n : Nat} {xs : List (List AD)} (h : ∀ x ∈ xs, x.all AD.isBl = true := by (intro y hy; obtain ⟨a, _, rfl⟩ := List.mem_map.1 hy; rfl)) : Fam n n xs.flatten xs.flatten := Fam.blank (CY h)
theorem kY (l : List Int) (hs : l.length ≤ 1048576) : bk av 179 [.one (.sl (l.map eI))] (.one (.sl (l.map eI))) := by
 refine bj ah Tryz.func179 rfl Tryz.call179 Tryz.ntmps179 (congrArg Array.toList Tryz.results179) fun S => ?_; conv => whnf
 repeat' (first | (refine aw0 ?_) | (refine awx ?_; conv => whnf) | fail | (refine bx (by simp only [List.length_map, List.length_nil, List.length_append, List.length_cons, List.length_take] <;> omega) ?_; conv => whnf) | (refine br alW ?_; conv => whnf) | (exact rr) | (refine And.intro rfl ?_; conv => whnf) | (refine cc.mk ?_ ?_ <;> (conv => whnf)) | (refine AB.mk (fun h => ?_) (fun h => ?_) <;> (conv => whnf)))
 exact ⟨_, _, l.map eI, Nat.le_refl _, ua (n := S.w0.heap.size), rfl, alW, rfl⟩
theorem sk (l : List DMark) (hs : l.length ≤ 1048576) : bk av 252 [.one (.sl (l.map DMark.ds))] (.one (.sl (l.map DMark.ds))) := by
 refine bj ah Tryz.func252 rfl Tryz.call252 Tryz.ntmps252 (congrArg Array.toList Tryz.results252) fun S => ?_; conv => whnf
 repeat' (first | (refine aw0 ?_) | (refine awx ?_; conv => whnf) | fail | (refine bx (by simp only [List.length_map, List.length_nil, List.length_append, List.length_cons, List.length_take] <;> omega) ?_; conv => whnf) | (refine br alW ?_; conv => whnf) | (exact rr) | (refine And.intro rfl ?_; conv => whnf) | (refine cc.mk ?_ ?_ <;> (conv => whnf)) | (refine AB.mk (fun h => ?_) (fun h => ?_) <;> (conv => whnf)))
 exact ⟨_, _, l.map DMark.ds, Nat.le_refl _, ua (n := S.w0.heap.size), rfl, alW, rfl⟩
theorem yk (l : List DPair) (hs : l.length ≤ 1048576) : bk av 308 [.one (.sl (l.map DPair.ds))] (.one (.sl (l.map DPair.ds))) := by
 refine bj ah Tryz.func308 rfl Tryz.call308 Tryz.ntmps308 (congrArg Array.toList Tryz.results308) fun S => ?_; conv => whnf
 repeat' (first | (refine aw0 ?_) | (refine awx ?_; conv => whnf) | fail | (refine bx (by simp only [List.length_map, List.length_nil, List.length_append, List.length_cons, List.length_take] <;> omega) ?_; conv => whnf) | (refine br alW ?_; conv => whnf) | (exact rr) | (refine And.intro rfl ?_; conv => whnf) | (refine cc.mk ?_ ?_ <;> (conv => whnf)) | (refine AB.mk (fun h => ?_) (fun h => ?_) <;> (conv => whnf)))
 exact ⟨_, _, l.map DPair.ds, Nat.le_refl _, ua (n := S.w0.heap.size), rfl, alW, rfl⟩
theorem zU (l : List DJob) (hs : l.length ≤ 1048576) : bk av 309 [.one (.sl (l.map DJob.ds))] (.one (.sl (l.map DJob.ds))) := by
 refine bj ah Tryz.func309 rfl Tryz.call309 Tryz.ntmps309 (congrArg Array.toList Tryz.results309) fun S => ?_; conv => whnf
 repeat' (first | (refine aw0 ?_) | (refine awx ?_; conv => whnf) | fail | (refine bx (by simp only [List.length_map, List.length_nil, List.length_append, List.length_cons, List.length_take] <;> omega) ?_; conv => whnf) | (refine br alW ?_; conv => whnf) | (exact rr) | (refine And.intro rfl ?_; conv => whnf) | (refine cc.mk ?_ ?_ <;> (conv => whnf)) | (refine AB.mk (fun h => ?_) (fun h => ?_) <;> (conv => whnf)))
 exact ⟨_, _, l.map DJob.ds, Nat.le_refl _, ua (n := S.w0.heap.size), rfl, alW, rfl⟩
theorem o6 (l : List Int) (hs : l.length ≤ 1048576) : bk av 79 [.one (.sl (l.map eI))] (.one (.sl (l.map eI))) := by
 refine bj ah Tryz.func79 rfl Tryz.call79 Tryz.ntmps79 (congrArg Array.toList Tryz.results79) fun S => ?_; conv => whnf
 repeat' (first | (refine aw0 ?_) | (refine awx ?_; conv => whnf) | fail | (refine bx (by simp only [List.length_map, List.length_nil, List.length_append, List.length_cons, List.length_take] <;> omega) ?_; conv => whnf) | (refine br alW ?_; conv => whnf) | (exact rr) | (refine And.intro rfl ?_; conv => whnf) | (refine cc.mk ?_ ?_ <;> (conv => whnf)) | (refine AB.mk (fun h => ?_) (fun h => ?_) <;> (conv => whnf)))
 exact ⟨_, _, l.map eI, Nat.le_refl _, ua (n := S.w0.heap.size), rfl, alW, rfl⟩
end Go.Proofs.YtcmknngafflcnaaGreat
