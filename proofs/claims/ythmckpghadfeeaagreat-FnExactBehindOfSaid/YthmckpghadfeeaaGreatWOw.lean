/- What is owed: a range over a function. The iterator. -/
import Derived.RangeFuncNested
import Derived.RangeFuncBound
import Derived.RangeFuncCalls
import Derived.RangeFuncLeaves
import Derived.Shelf.Abstract
import Derived.Shelf.RegionOpen
import Derived.WalkKit
import Derived.OwnWalkIn
import Derived.TacticsInMore
import Derived.LoopNIn
import Derived.LoopIn
import Derived.Maps.AppendAt
import Derived.Test.YthmckpghadfeeaaGreatWOk
set_option linter.unusedVariables false
set_option linter.unusedSimpArgs false
set_option maxRecDepth 100000
namespace Go.Proofs.YthmckpghadfeeaaGreat
open Go.RowKit Go.Shelf

attribute [local go_sem] Oper.semAt_some

def entV (e : DEntry) : Array Value := #[.int .i64 e.index, .int .i64 e.time, .int .i64 e.client, .int .i64 e.seq, .int .i64 e.op.kind, .int .i64 e.op.a, .int .i64 e.op.b, .int .i64 e.op.c, .int .i64 e.op.d]
/-- What a round keeps of what the iterator reads. -/
def Keeps3 (n₀ Bb Bd : Nat) (W W' : World) : Prop := W.heap.size ≤ W'.heap.size ∧ ∀ k, (k < n₀ ∨ k = Bb ∨ k = Bd) → W'.heap[k]? = W.heap[k]?
theorem Keeps3.refl {n₀ Bb Bd : Nat} (W : World) : Keeps3 n₀ Bb Bd W W := ⟨Nat.le_refl _, fun _ _ => rfl⟩
theorem Keeps3.trans {n₀ Bb Bd : Nat} {A B C : World} (h : Keeps3 n₀ Bb Bd A B) (h' : Keeps3 n₀ Bb Bd B C) : Keeps3 n₀ Bb Bd A C := ⟨Nat.le_trans h.1 h'.1, fun k hk => (h'.2 k hk).trans (h.2 k hk)⟩
theorem Keeps3.cell {n₀ Bb Bd : Nat} {W W' : World} (h : Keeps3 n₀ Bb Bd W W') {p : Addr} (hk : p.block < n₀ ∨ p.block = Bb ∨ p.block = Bd) : W'.cell? p = W.cell? p := by
  unfold World.cell?
  rw [h.2 _ hk]
theorem Keeps3.alloc {n₀ Bb Bd : Nat} (W : World) (o : Obj) (h0 : n₀ ≤ W.heap.size) (hb : Bb < W.heap.size) (hd : Bd < W.heap.size) : Keeps3 n₀ Bb Bd W (W.alloc o) :=
  ⟨by simp, fun k hk => Below.heap_alloc _ _ k (by omega)⟩
/-- The entries lie at A. -/
def EntsAt (n₀ : Nat) (W : World) (A : Option Addr) (es : List DEntry) : Prop := es = [] ∨ ∃ b off, A = some ⟨b, off, none⟩ ∧ b < n₀ ∧ ∀ (k : Nat) (hk : k < es.length) (j : Nat) (u : Value), (entV es[k])[j]? = some u → W.cell? ⟨b, off + k * 9 + j, none⟩ = some u
theorem EntsAt.keep {n₀ Bb Bd : Nat} {W W' : World} {A : Option Addr} {es : List DEntry} (h : Keeps3 n₀ Bb Bd W W') : EntsAt n₀ W A es → EntsAt n₀ W' A es
  | .inl e => .inl e
  | .inr ⟨b, off, e, hb, hc⟩ => .inr ⟨b, off, e, hb, fun k hk j u hu => (h.cell (p := ⟨b, off + k * 9 + j, none⟩) (.inl hb)).trans (hc k hk j u hu)⟩
def fromL (d : Int) (es : List DEntry) : List DEntry := es.filter fun e => decide (d ≤ e.index)
theorem from_yes {d : Int} {es : List DEntry} {k : Nat} (hk : k < es.length) (h : d ≤ es[k].index) : fromL d (es.take (k + 1)) = fromL d (es.take k) ++ [es[k]] := by
  simp only [fromL]
  rw [List.take_succ_eq_append_getElem hk, List.filter_append, List.filter_cons_of_pos (by simpa using h), List.filter_nil]
theorem from_no {d : Int} {es : List DEntry} {k : Nat} (hk : k < es.length) (h : ¬ d ≤ es[k].index) : fromL d (es.take (k + 1)) = fromL d (es.take k) := by
  simp only [fromL]
  rw [List.take_succ_eq_append_getElem hk, List.filter_append, List.filter_cons_of_neg (by simpa using h), List.filter_nil, List.append_nil]
theorem from_pre {d : Int} {es : List DEntry} (k : Nat) : fromL d (es.take k) <+: fromL d es := by
  have : fromL d es = fromL d (es.take k) ++ fromL d (es.drop k) := by
    simp only [fromL]
    rw [← List.filter_append, List.take_append_drop]
  rw [this]
  exact List.prefix_append _ _
set_option maxRecDepth 100000 in
set_option maxHeartbeats 4000000 in
theorem owIter_in (F : Fence) (n : Nat) (hf : F.fn 272) (hro : F.round = none) (hn : 1 ≤ n) (l Bb Bd n₀ : Nat) (A : Option Addr) (cap : Nat) (es : List DEntry) (d : Int) (hes : es.length ≤ 20) (J Jx : List DEntry → World → Prop)
    (hY : ∀ pre x W, J pre W → pre.length < es.length → YieldAt F (n - 1) Tryz.prog l #[.agg (entV x)] W fun e W' =>
      (e = .returned (.bool true) ∧ J (pre ++ [x]) W' ∧ Keeps3 n₀ Bb Bd W W') ∨ (e = .returned (.bool false) ∧ Jx (pre ++ [x]) W'))
    (W : World) (hJ : AbidesFrom W.heap.size J) (h0n : n₀ ≤ W.heap.size) (hBbl : Bb < W.heap.size) (hBdl : Bd < W.heap.size) (hBb : W.cell? ⟨Bb, 2, none⟩ = some (.slice A es.length cap)) (hBd : W.cell? ⟨Bd, 0, none⟩ = some (.int .i64 d)) (hA : EntsAt n₀ W A es) (h0 : J [] W) :
    CallsIn F n Tryz.prog 272 #[.func (.yield l) #[] #[], .pointer (some ⟨Bb, 0, none⟩), .pointer (some ⟨Bd, 0, none⟩)] W fun e W' => (∃ v, e = .returned v) ∧
      ((∃ ys, ys = fromL d es ∧ J ys W') ∨ (∃ pre, pre <+: fromL d es ∧ Jx pre W')) := by
  refine callsIn_of_wp Tryz.func272 rfl hf ?_ hro
  simp only [Tryz.ntmps272, List.size_toArray, List.length_cons, List.length_nil, Nat.reduceAdd, Nat.reduceSub, Array.replicate_succ, Array.replicate_zero, List.push_toArray, List.append_toArray, List.nil_append, List.cons_append]
  gi_wp2
  gi_loopw [9] (fun i wr => ∃ k : Nat, k ≤ es.length ∧ i = .int .i64 k ∧ J (fromL d (es.take k)) wr ∧ Keeps3 n₀ Bb Bd W wr)
    (fun i _ => es.length - (intOf i).toNat)
  case atStart => exact ⟨0, Nat.zero_le _, rfl, h0, Keeps3.refl _⟩
  case round =>
    obtain ⟨k, hk, rfl, hJs, hnx⟩ := hrel
    by_cases hlt : k < es.length
    · obtain ⟨b, off, rfl, hb0, hc⟩ : ∃ b off, A = some ⟨b, off, none⟩ ∧ b < n₀ ∧ ∀ (k : Nat) (hk : k < es.length) (j : Nat) (u : Value), (entV es[k])[j]? = some u → W.cell? ⟨b, off + k * 9 + j, none⟩ = some u := by
        rcases hA with rfl | h
        · simp at hlt
        · exact h
      have rd : ∀ (j : Nat) (u : Value), (entV es[k])[j]? = some u → wr.cell? ⟨b, off + k * 9 + j, none⟩ = some u := fun j u hu => (hnx.cell (p := ⟨b, off + k * 9 + j, none⟩) (.inl hb0)).trans (hc k hlt j u hu)
      have c0 : wr.cell? ⟨b, off + k * 9, none⟩ = some (.int .i64 es[k].index) := rd 0 _ rfl
      have c1 : wr.cell? ⟨b, off + k * 9 + 1, none⟩ = some (.int .i64 es[k].time) := rd 1 _ rfl
      have c2 : wr.cell? ⟨b, off + k * 9 + 2, none⟩ = some (.int .i64 es[k].client) := rd 2 _ rfl
      have c3 : wr.cell? ⟨b, off + k * 9 + 3, none⟩ = some (.int .i64 es[k].seq) := rd 3 _ rfl
      have c4 : wr.cell? ⟨b, off + k * 9 + 4, none⟩ = some (.int .i64 es[k].op.kind) := rd 4 _ rfl
      have c5 : wr.cell? ⟨b, off + k * 9 + 5, none⟩ = some (.int .i64 es[k].op.a) := rd 5 _ rfl
      have c6 : wr.cell? ⟨b, off + k * 9 + 6, none⟩ = some (.int .i64 es[k].op.b) := rd 6 _ rfl
      have c7 : wr.cell? ⟨b, off + k * 9 + 7, none⟩ = some (.int .i64 es[k].op.c) := rd 7 _ rfl
      have c8 : wr.cell? ⟨b, off + k * 9 + 8, none⟩ = some (.int .i64 es[k].op.d) := rd 8 _ rfl
      have cd : wr.cell? ⟨Bd, 0, none⟩ = some (.int .i64 d) := (hnx.cell (p := ⟨Bd, 0, none⟩) (.inr (.inr rfl))).trans hBd
      clear rd
      have hsz := hnx.1
      have cd2 := ((Keeps3.alloc (n₀ := n₀) (Bb := Bb) (Bd := Bd) wr (.cells #[.int .i64 es[k].index, .int .i64 es[k].time, .int .i64 es[k].client, .int .i64 es[k].seq, .int .i64 es[k].op.kind, .int .i64 es[k].op.a, .int .i64 es[k].op.b, .int .i64 es[k].op.c, .int .i64 es[k].op.d] 259) (by omega) (by omega) (by omega)).cell (p := ⟨Bd, 0, none⟩) (.inr (.inr rfl))).trans cd
      obtain ⟨w2, hw2⟩ : ∃ w2, wr.alloc (.cells #[.int .i64 es[k].index, .int .i64 es[k].time, .int .i64 es[k].client, .int .i64 es[k].seq, .int .i64 es[k].op.kind, .int .i64 es[k].op.a, .int .i64 es[k].op.b, .int .i64 es[k].op.c, .int .i64 es[k].op.d] 259) = w2 := ⟨_, rfl⟩
      have hJ2 : J (fromL d (es.take k)) w2 := hw2 ▸ hJ _ _ _ none hJs (World.grownBy_alloc wr _ none) (fun r e => by cases e)
      have hk2 : Keeps3 n₀ Bb Bd W w2 := hw2 ▸ hnx.trans (Keeps3.alloc wr _ (by omega) (by omega) (by omega))
      have hpl : (fromL d (es.take k)).length < es.length := Nat.lt_of_le_of_lt (List.length_filter_le ..) (by simp; omega)
      by_cases hge : d ≤ es[k].index
      · obtain ⟨fn, tmps, assign, body, hy, hR⟩ := hY _ es[k] w2 hJ2 hpl
        simp only [entV] at hy
        subst hw2
        gi_wp2
        refine hR.mono ?_
        rintro e W3 (⟨rfl, hJ3, hk3⟩ | ⟨rfl, hJx3⟩)
        · gi_wp2
          go_roundw
          case rel => exact ⟨k + 1, by omega, by simp, by rw [from_yes hlt hge]; exact hJ3, hk2.trans hk3⟩
          case measure => simp [intOf]; omega
        · gi_wp2
          refine bodyPost_ret (results_none rfl _ _ _) rfl ?_
          exact ⟨⟨_, rfl⟩, .inr ⟨_, by rw [← from_yes hlt hge]; exact from_pre _, hJx3⟩⟩
      · subst hw2
        gi_wp2
        refine ⟨fun _ h => (by cases h), ?_⟩
        gi_wp2
        go_roundw
        case rel => exact ⟨k + 1, by omega, by simp, by rw [from_no (d := d) hlt (by omega)]; exact hJ2, hk2⟩
        case measure => simp [intOf]; omega
    · obtain rfl : k = es.length := by omega
      gi_wp2
      go_end0
      exact ⟨⟨_, rfl⟩, .inl ⟨_, by rw [List.take_length], hJs⟩⟩
end Go.Proofs.YthmckpghadfeeaaGreat
