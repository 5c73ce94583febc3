/- The three laws of worlds, over data; what reads as a world holds no list that is too long. -/
import Derived.Test.YthmckpghadfeeaaGreatWData
import Derived.Test.YthmckpghadfeeaaGreatWC3
import Derived.Test.YthmckpghadfeeaaGreatWTo
import Derived.Test.YthmckpghadfeeaaGreatWEq
import Derived.Test.YthmckpghadfeeaaGreatWSz
set_option linter.unusedVariables false
set_option linter.unusedSimpArgs false
set_option maxRecDepth 100000
namespace Go.Proofs.YthmckpghadfeeaaGreat
open Go.ChangeShapes Go.WideShapes Go.RowKit
def dk_WC4_laws_FnExactUndoneOf_10 : List (List Nat) := [[], [], [1], [1, 2, 0], [0, 2, 1, 3]]
def fk_WC4_laws_FnExactUndoneOf_10 : List (List Nat) := [[0, 2, 2], [2, 0, 0], [2, 1, 0]]
def dk_WC4_laws_FnExactBehindOf_10 : List (List Nat) := [[], [], [1], [1, 2, 0], [0, 2, 1, 3]]
def fk_WC4_laws_FnExactBehindOf_10 : List (List Nat) := [[0, 2, 2], [2, 0, 0], [2, 1, 0]]
def dk_WC4_laws_FnExactQuietIn_10 : List (List Nat) := [[], [], [1], [1, 2, 0], [0, 2, 1, 3]]
def fk_WC4_laws_FnExactQuietIn_10 : List (List Nat) := [[0, 2, 2], [2, 0, 0], [2, 1, 0]]

structure SmR {α : Type} (R : Rep α) (p : α → Prop) : Prop where
  h : ∀ {w cs a F}, R.rd w cs a F → p a
theorem SmR.any {α : Type} {R : Rep α} : SmR R fun _ => True := ⟨fun _ => trivial⟩
theorem SmR.pair {α β : Type} {R : Rep α} {S : Rep β} {p : α → Prop} {q : β → Prop} (h1 : SmR R p) (h2 : SmR S q) : SmR (Rep.pair R S) fun x => p x.1 ∧ q x.2 := by
  refine ⟨?_⟩
  rintro w cs a F ⟨c1, c2, F1, F2, _, _, g1, g2⟩
  exact ⟨h1.h g1, h2.h g2⟩
theorem SmR.via {α β : Type} {R : Rep α} {f : β → α} {p : α → Prop} (h : SmR R p) : SmR (Rep.via f R) fun x => p (f x) := ⟨fun hr => h.h hr⟩
theorem SmR.all {α : Type} {R : Rep α} {p : α → Prop} (h : SmR R p) {w : World} : ∀ {l : List α} {xs : List Value} {F : List Nat}, R.all w xs l F → ∀ y ∈ l, p y
  | [], _, _, _, y, hy => by cases hy
  | a :: l, _, _, ⟨c1, c2, F1, F2, _, _, h1, h2⟩, y, hy => by
    rcases List.mem_cons.1 hy with rfl | hy
    · exact h.h h1
    · exact SmR.all h h2 y hy
theorem SmR.sl {α : Type} {R : Rep α} {p : α → Prop} (h : SmR R p) : SmR (Rep.sl R) fun l => l.length ≤ 9223372036854775807 ∧ ∀ y ∈ l, p y := by
  refine ⟨?_⟩
  rintro w cs l F ⟨A, cap, xs, F1, _, hc, hm, _, hall, _⟩
  have : maxLen ≤ 9223372036854775807 := by decide
  exact ⟨by omega, SmR.all h hall⟩
theorem SmR.mono {α : Type} {R : Rep α} {p q : α → Prop} (h : SmR R p) (hq : ∀ a, p a → q a) : SmR R q := ⟨fun hr => hq _ (h.h hr)⟩
theorem SmR.to {α β : Type} {R : Rep β} {S : Rep α} {f : β → α} {p : α → Prop} {q : β → Prop} (h : SmR S p) (e : R = Rep.via f S) (hq : ∀ a, p (f a) → q a) : SmR R q := by subst e; exact (SmR.via h).mono hq
theorem sm_DWrite : SmR Rep.DWrite (DWrite.small 9223372036854775807) := SmR.to (SmR.pair SmR.any (SmR.sl SmR.any)) rfl fun x h => h.2.1
theorem sm_DDisk : SmR Rep.DDisk (DDisk.small 9223372036854775807) := SmR.to (SmR.pair (SmR.sl (SmR.sl SmR.any)) (SmR.sl sm_DWrite)) rfl fun x h => ⟨h.1.1, fun y hy => (h.1.2 y hy).1, h.2.1, h.2.2⟩
theorem sm_DTwo : SmR Rep.DTwo (DTwo.small 9223372036854775807) := SmR.to (SmR.pair sm_DDisk sm_DDisk) rfl fun x h => h
theorem sm_DHead : SmR Rep.DHead (DHead.small 9223372036854775807) := SmR.to (SmR.pair SmR.any (SmR.pair SmR.any (SmR.pair SmR.any (SmR.sl SmR.any)))) rfl fun x h => h.2.2.2.1
theorem sm_DBook : SmR Rep.DBook (DBook.small 9223372036854775807) := SmR.to (SmR.pair SmR.any (SmR.pair SmR.any (SmR.sl SmR.any))) rfl fun x h => h.2.2.1
theorem sm_DLogNode : SmR Rep.DLogNode (DLogNode.small 9223372036854775807) := SmR.to (SmR.pair sm_DTwo (SmR.pair sm_DHead (SmR.pair sm_DHead (SmR.pair SmR.any (SmR.pair sm_DBook (SmR.pair (SmR.sl SmR.any) (SmR.pair SmR.any (SmR.sl SmR.any)))))))) rfl fun x h => ⟨h.1, h.2.1, h.2.2.1, h.2.2.2.2.1, h.2.2.2.2.2.1.1, h.2.2.2.2.2.2.2.1⟩
theorem sm_DState : SmR Rep.DState (DState.small 9223372036854775807) := SmR.to (SmR.pair SmR.any (SmR.pair SmR.any (SmR.pair (SmR.sl SmR.any) (SmR.pair (SmR.sl SmR.any) SmR.any)))) rfl fun x h => ⟨h.2.2.1.1, h.2.2.2.1.1⟩
theorem sm_DStore : SmR Rep.DStore (DStore.small 9223372036854775807) := SmR.to (SmR.pair sm_DDisk (SmR.pair sm_DState SmR.any)) rfl fun x h => ⟨h.1, h.2.1⟩
theorem sm_DJobs : SmR Rep.DJobs (DJobs.small 9223372036854775807) := SmR.to (SmR.pair SmR.any (SmR.pair SmR.any (SmR.pair SmR.any (SmR.pair SmR.any (SmR.pair SmR.any (SmR.sl SmR.any)))))) rfl fun x h => h.2.2.2.2.2.1
theorem sm_DView : SmR Rep.DView (DView.small 9223372036854775807) := SmR.to sm_DJobs rfl fun x h => h
theorem sm_DSched : SmR Rep.DSched (DSched.small 9223372036854775807) := SmR.to (SmR.pair SmR.any (SmR.pair SmR.any (SmR.pair sm_DView SmR.any))) rfl fun x h => h.2.2.1
theorem sm_DClient : SmR Rep.DClient (DClient.small 9223372036854775807) := SmR.to (SmR.pair SmR.any (SmR.pair (SmR.sl SmR.any) (SmR.pair (SmR.sl SmR.any) SmR.any))) rfl fun x h => ⟨h.2.1.1, h.2.2.1.1⟩
theorem sm_DMsg : SmR Rep.DMsg (DMsg.small 9223372036854775807) := SmR.to (SmR.pair SmR.any (SmR.pair SmR.any (SmR.sl SmR.any))) rfl fun x h => h.2.2.1
theorem sm_DNet : SmR Rep.DNet (DNet.small 9223372036854775807) := SmR.to (SmR.pair (SmR.sl sm_DMsg) (SmR.sl SmR.any)) rfl fun x h => ⟨h.1.1, h.1.2, h.2.1⟩
theorem sm_DWorld : SmR Rep.DWorld (DWorld.small 9223372036854775807) := SmR.to (SmR.pair sm_DLogNode (SmR.pair sm_DStore (SmR.pair sm_DSched (SmR.pair sm_DSched (SmR.pair sm_DClient (SmR.pair sm_DClient (SmR.pair sm_DNet (SmR.pair (SmR.sl SmR.any) (SmR.sl SmR.any))))))))) rfl fun x h => ⟨h.1, h.2.1, h.2.2.1, h.2.2.2.1, h.2.2.2.2.1, h.2.2.2.2.2.1, h.2.2.2.2.2.2.1, h.2.2.2.2.2.2.2.1.1, h.2.2.2.2.2.2.2.2.1⟩

theorem lawUndoneOf_p (w : DWorld) (hs : DWorld.small 9223372036854775807 w) : PCall av 3 [.agg w.ds] (rB true) := by
  refine pcall_of av_ok Tryz.func3 rfl Tryz.call3 Tryz.ntmps3 (congrArg Array.toList Tryz.results3) fun S => ?_; conv => whnf
  repeat' (first | (refine AWP.seq ?_) | ((first | refine AWP.region av_ok ?_ | refine AWP.ret ?_ | refine AWP.skip ?_ | refine AWP.exit ?_ | refine AWP.block ?_ | refine AWP.cond ?_ | refine AB.tt ?_ | refine AB.ff ?_); conv => whnf) | ((first | refine AB.ofT (by assumption) ?_ | refine AB.ofF (by assumption) ?_); conv => whnf) | (refine ACall.pure (szWorld_p w 1048576 (by decide) (by decide) hs) rfl ?_; conv => whnf) | (refine AFCall.mk ⟨_, _, szWorld_p w 1048576 (by decide) (by decide) hs, .inl rfl, ?_⟩; conv => whnf) | (exact trivial) | (refine And.intro rfl ?_; conv => whnf) | (refine AB.mk (fun h => ?_) (fun h => ?_) <;> (conv => whnf)) | (with_reducible_and_instances rfl) | (exact (rfl : AP.tup _ = AP.tup _)))
  have hc : w.cnt ≤ 1048576 := by
    simp only [decide_eq_false_iff_not] at h
    omega
  have hs' : DWorld.small 1048576 w := DWorld.cnt_small hc
  clear h
  repeat' (first | (refine AWP.seq ?_) | ((first | refine AWP.region av_ok ?_ | refine AWP.ret ?_ | refine AWP.skip ?_ | refine AWP.exit ?_ | refine AWP.block ?_ | refine AWP.cond ?_ | refine AB.tt ?_ | refine AB.ff ?_); conv => whnf) | ((first | refine AB.ofT (by assumption) ?_ | refine AB.ofF (by assumption) ?_); conv => whnf) | (refine AWP.drawK av_ok 10 3 dk_WC4_laws_FnExactUndoneOf_10 fk_WC4_laws_FnExactUndoneOf_10 (by kernel_rfl) (by kernel_rfl) (by kernel_rfl) rfl ?_; conv => whnf) | (refine ACall.pure (toWorld_p w hs') rfl ?_; conv => whnf) | (refine AFCall.mk ⟨_, _, toWorld_p w hs', .inl rfl, ?_⟩; conv => whnf) | (refine ACall.pure (sUndoneOf_p w hs') rfl ?_; conv => whnf) | (refine AFCall.mk ⟨_, _, sUndoneOf_p w hs', .inl rfl, ?_⟩; conv => whnf) | (refine ACall.pure (iUndoneOf_p w hs') rfl ?_; conv => whnf) | (refine AFCall.mk ⟨_, _, iUndoneOf_p w hs', .inl rfl, ?_⟩; conv => whnf) | (refine ACall.pure (eqWorld_p w hs') rfl ?_; conv => whnf) | (refine AFCall.mk ⟨_, _, eqWorld_p w hs', .inl rfl, ?_⟩; conv => whnf) | (exact trivial) | (refine And.intro rfl ?_; conv => whnf) | (refine AB.mk (fun h => ?_) (fun h => ?_) <;> (conv => whnf)) | (with_reducible_and_instances rfl) | (exact (rfl : AP.tup _ = AP.tup _)))
  all_goals first
    | rfl
    | (exfalso; simp at h; done)
theorem lawBehindOf_p (w : DWorld) (hs : DWorld.small 9223372036854775807 w) : PCall av 4 [.agg w.ds] (rB true) := by
  refine pcall_of av_ok Tryz.func4 rfl Tryz.call4 Tryz.ntmps4 (congrArg Array.toList Tryz.results4) fun S => ?_; conv => whnf
  repeat' (first | (refine AWP.seq ?_) | ((first | refine AWP.region av_ok ?_ | refine AWP.ret ?_ | refine AWP.skip ?_ | refine AWP.exit ?_ | refine AWP.block ?_ | refine AWP.cond ?_ | refine AB.tt ?_ | refine AB.ff ?_); conv => whnf) | ((first | refine AB.ofT (by assumption) ?_ | refine AB.ofF (by assumption) ?_); conv => whnf) | (refine ACall.pure (szWorld_p w 1048576 (by decide) (by decide) hs) rfl ?_; conv => whnf) | (refine AFCall.mk ⟨_, _, szWorld_p w 1048576 (by decide) (by decide) hs, .inl rfl, ?_⟩; conv => whnf) | (exact trivial) | (refine And.intro rfl ?_; conv => whnf) | (refine AB.mk (fun h => ?_) (fun h => ?_) <;> (conv => whnf)) | (with_reducible_and_instances rfl) | (exact (rfl : AP.tup _ = AP.tup _)))
  have hc : w.cnt ≤ 1048576 := by
    simp only [decide_eq_false_iff_not] at h
    omega
  have hs' : DWorld.small 1048576 w := DWorld.cnt_small hc
  clear h
  repeat' (first | (refine AWP.seq ?_) | ((first | refine AWP.region av_ok ?_ | refine AWP.ret ?_ | refine AWP.skip ?_ | refine AWP.exit ?_ | refine AWP.block ?_ | refine AWP.cond ?_ | refine AB.tt ?_ | refine AB.ff ?_); conv => whnf) | ((first | refine AB.ofT (by assumption) ?_ | refine AB.ofF (by assumption) ?_); conv => whnf) | (refine AWP.drawK av_ok 10 3 dk_WC4_laws_FnExactBehindOf_10 fk_WC4_laws_FnExactBehindOf_10 (by kernel_rfl) (by kernel_rfl) (by kernel_rfl) rfl ?_; conv => whnf) | (refine ACall.pure (toWorld_p w hs') rfl ?_; conv => whnf) | (refine AFCall.mk ⟨_, _, toWorld_p w hs', .inl rfl, ?_⟩; conv => whnf) | (refine ACall.pure (sBehindOf_p w hs') rfl ?_; conv => whnf) | (refine AFCall.mk ⟨_, _, sBehindOf_p w hs', .inl rfl, ?_⟩; conv => whnf) | (refine ACall.pure (iBehindOf_p w hs') rfl ?_; conv => whnf) | (refine AFCall.mk ⟨_, _, iBehindOf_p w hs', .inl rfl, ?_⟩; conv => whnf) | (refine ACall.pure (eqWorld_p w hs') rfl ?_; conv => whnf) | (refine AFCall.mk ⟨_, _, eqWorld_p w hs', .inl rfl, ?_⟩; conv => whnf) | (exact trivial) | (refine And.intro rfl ?_; conv => whnf) | (refine AB.mk (fun h => ?_) (fun h => ?_) <;> (conv => whnf)) | (with_reducible_and_instances rfl) | (exact (rfl : AP.tup _ = AP.tup _)))
  all_goals first
    | rfl
    | (exfalso; simp at h; done)
theorem lawQuietIn_p (w : DWorld) (hs : DWorld.small 9223372036854775807 w) : PCall av 5 [.agg w.ds] (rB true) := by
  refine pcall_of av_ok Tryz.func5 rfl Tryz.call5 Tryz.ntmps5 (congrArg Array.toList Tryz.results5) fun S => ?_; conv => whnf
  repeat' (first | (refine AWP.seq ?_) | ((first | refine AWP.region av_ok ?_ | refine AWP.ret ?_ | refine AWP.skip ?_ | refine AWP.exit ?_ | refine AWP.block ?_ | refine AWP.cond ?_ | refine AB.tt ?_ | refine AB.ff ?_); conv => whnf) | ((first | refine AB.ofT (by assumption) ?_ | refine AB.ofF (by assumption) ?_); conv => whnf) | (refine ACall.pure (szWorld_p w 1048576 (by decide) (by decide) hs) rfl ?_; conv => whnf) | (refine AFCall.mk ⟨_, _, szWorld_p w 1048576 (by decide) (by decide) hs, .inl rfl, ?_⟩; conv => whnf) | (exact trivial) | (refine And.intro rfl ?_; conv => whnf) | (refine AB.mk (fun h => ?_) (fun h => ?_) <;> (conv => whnf)) | (with_reducible_and_instances rfl) | (exact (rfl : AP.tup _ = AP.tup _)))
  have hc : w.cnt ≤ 1048576 := by
    simp only [decide_eq_false_iff_not] at h
    omega
  have hs' : DWorld.small 1048576 w := DWorld.cnt_small hc
  clear h
  repeat' (first | (refine AWP.seq ?_) | ((first | refine AWP.region av_ok ?_ | refine AWP.ret ?_ | refine AWP.skip ?_ | refine AWP.exit ?_ | refine AWP.block ?_ | refine AWP.cond ?_ | refine AB.tt ?_ | refine AB.ff ?_); conv => whnf) | ((first | refine AB.ofT (by assumption) ?_ | refine AB.ofF (by assumption) ?_); conv => whnf) | (refine AWP.drawK av_ok 10 3 dk_WC4_laws_FnExactQuietIn_10 fk_WC4_laws_FnExactQuietIn_10 (by kernel_rfl) (by kernel_rfl) (by kernel_rfl) rfl ?_; conv => whnf) | (refine ACall.pure (toWorld_p w hs') rfl ?_; conv => whnf) | (refine AFCall.mk ⟨_, _, toWorld_p w hs', .inl rfl, ?_⟩; conv => whnf) | (refine ACall.pure (sQuietIn_p w hs') rfl ?_; conv => whnf) | (refine AFCall.mk ⟨_, _, sQuietIn_p w hs', .inl rfl, ?_⟩; conv => whnf) | (refine ACall.pure (iQuietIn_p w hs') rfl ?_; conv => whnf) | (refine AFCall.mk ⟨_, _, iQuietIn_p w hs', .inl rfl, ?_⟩; conv => whnf) | (refine ACall.pure (eqWorld_p w hs') rfl ?_; conv => whnf) | (refine AFCall.mk ⟨_, _, eqWorld_p w hs', .inl rfl, ?_⟩; conv => whnf) | (exact trivial) | (refine And.intro rfl ?_; conv => whnf) | (refine AB.mk (fun h => ?_) (fun h => ?_) <;> (conv => whnf)) | (with_reducible_and_instances rfl) | (exact (rfl : AP.tup _ = AP.tup _)))
  all_goals first
    | rfl
    | (exfalso; simp at h; done)
end Go.Proofs.YthmckpghadfeeaaGreat
