/- append of elements whose blocks may be older than the slice that they are appended to. -/
import Derived.Test.YtlhanpkfnhnegaaDoorGrow
set_option linter.unusedVariables false
set_option linter.unusedSimpArgs false
set_option maxRecDepth 100000
namespace Go.Proofs.YtlhanpkfnhnegaaDoor
open Go.ChangeShapes Go.WideShapes Go.RowKit
section
variable {α : Type} {P : Program}
theorem run_growD {R : Rep α} (w0 w : World) (t ty e : TypeId) (B Bg : Nat) (i : TypeInfo) (z : Value) (bytes : Nat) (ht : P.underlying t = some (.slice e)) (hi : P.info? e = some i) (hz : i.zero = some z)
    (hsize : i.size = R.size) (hby : i.bytes = bytes) (hzs : z.cells.size = R.size) (hsz : 0 < R.size)
    (v : Value) (n : Nat) (l : List α) (hg : Grow R e Bg w0 v n l) (hbl : Below w0.heap.size w0 w)
    (A : Option Addr) (m c : Nat) (news : List Value) (l2 : List α) (F2 : List Nat) (hm : m = l2.length) (hr : Row w A news) (hall : R.all w news l2 F2) (hfr : Fresh B w F2) (hd2 : ∀ b ∈ F2, b < Bg ∨ w0.heap.size ≤ b) (hBg : B ≤ Bg) (hB : Bg ≤ w0.heap.size)
    (h63 : n + m ≤ 1000000000) (hbytes : bytes ≤ 100000) :
    ∃ A' c' w', (Builtin.append_ #[t, t] ty #[v, .slice A m c]).run P w = .ok (.slice A' (n + m) c') w' ∧ Grow R e B w' (.slice A' (n + m) c') (n + m) (l ++ l2) ∧ Below B w w' ∧ w.grownBy w' v.ownBlock := by
  have hg' := hg.below hbl
  have hlt := hg.own_lt
  obtain ⟨hn, xs, F, ho, ha, hf, hd⟩ := hg
  obtain ⟨hn', xs', F', ho', ha', hf', hd'⟩ := hg'
  subst hm
  have hsz2 := hbl.size
  have hx : w.ownsRow B e R.size v n xs := by
    refine ⟨ho.1, ?_⟩
    rcases ho.2 with h | ⟨g, cap, cur, hv, hb, hg, r⟩
    · exact .inl h
    · exact .inr ⟨g, cap, cur, hv, Nat.le_trans hBg hb, (hbl.block g (Array.getElem?_eq_some_iff.1 hg).1).trans hg, r⟩
  have hax : R.all w xs l F := Rep.all_keep ha fun b hb => hbl.block b (hf.lt b hb)
  have hb1 : (n + l2.length) * bytes ≤ 1000000000 * 100000 := Nat.mul_le_mul h63 hbytes
  obtain ⟨v', w', hrun, h2, h3, h5⟩ := run_append_row (P := P) w B t ty e i z R.size bytes ht hi hz hsize hby hzs hsz v n xs hx A l2.length c news (Rep.all_len hall) hr (Rep.all_one hall)
    (by unfold maxLen; omega) (by omega) (by omega)
  have hF : ∀ b ∈ F, w'.heap[b]? = w.heap[b]? := fun b hb => h3.block b (by have := hf.lt b hb; omega) (fun e => hd b hb e.symm)
  have hF2 : ∀ b ∈ F2, w'.heap[b]? = w.heap[b]? := fun b hb => h3.block b (hfr.lt b hb) (fun e => by have := hlt b e.symm; have := hd2 b hb; omega)
  have hG : Grow R e B w' v' (n + l2.length) (l ++ l2) := by
    refine ⟨by simp [hn], xs ++ news, F ++ F2, h2, Rep.all_append (Rep.all_keep hax hF) (Rep.all_keep hall hF2), ?_, ?_⟩
    · refine Fresh.join (((hf.mono hBg).keep (w' := w) fun b hb => hbl.block b (hf.lt b hb)).keep hF) (hfr.keep hF2) fun b hb hb' => ?_
      have := hf.lt b hb; have := (hf.2 b hb).1; have := hd2 b hb'; omega
    · intro b hb
      rcases List.mem_append.1 hb with hb | hb
      · rcases h5 with h | h
        · rw [h]; exact hd b hb
        · rw [h]; intro e; injection e with e; have := hf.lt b hb; omega
      · rcases h5 with h | h
        · rw [h]; intro e; have := hlt b e; have := hd2 b hb; omega
        · rw [h]; intro e; injection e with e; have := hfr.lt b hb; omega
  obtain ⟨A', c', rfl⟩ := hG.form
  exact ⟨A', c', w', hrun, hG, (Below.refl B w).grown h3 (by omega) (fun k hk => Nat.le_trans hBg (hlt k hk).1), h3⟩

/-- append, at the list of a plain region's operations. -/
theorem wpList_growD {R : Rep α} {ops : Array Oper} {rest : List Oper} {o : Oper} {a : Act} {Q : Exit → Act → World → Prop} {w : World} (hgd : o.guard = none) (s x : Operand) (t : TypeId)
    (ho : o.op = .call { callee := .builtin .append, args := #[s, x], argTypes := #[t, t] })
    (w0 : World) (e : TypeId) (B Bg : Nat) {z : Value} {bytes : Nat} (ht : P.underlying t = some (.slice e)) (hinfo : (P.info? e).map (fun i => (i.zero, i.size, i.bytes)) = some (some z, R.size, bytes))
    (hzs : z.cells.size = R.size) (hsz : 0 < R.size)
    (v : Value) (n : Nat) (l : List α) (hs : a.eval s = v) (hg : Grow R e Bg w0 v n l) (hbl : Below w0.heap.size w0 w)
    (A : Option Addr) (m c : Nat) (news : List Value) (l2 : List α) (F2 : List Nat) (hx : a.eval x = .slice A m c) (hm : m = l2.length) (hr : Row w A news) (hall : R.all w news l2 F2) (hfr : Fresh B w F2) (hd2 : ∀ b ∈ F2, b < Bg ∨ w0.heap.size ≤ b) (hBg : B ≤ Bg) (hB : Bg ≤ w0.heap.size)
    (h63 : n + m ≤ 1000000000) (hbytes : bytes ≤ 100000)
    (h : ∀ A' c' w', Grow R e B w' (.slice A' (n + m) c') (n + m) (l ++ l2) → Below B w w' → w.grownBy w' v.ownBlock → wpList P ops Q rest (a.put o.dst (.slice A' (n + m) c')) w') : wpList P ops Q (o :: rest) a w := by
  obtain ⟨i0, hi, hz0, hz1, hz2⟩ := info_parts hinfo
  refine wpList_plain hgd fun K hK => ?_
  obtain ⟨A', c', w', hrun, h2, h3, h4⟩ := run_growD (P := P) w0 w t o.type e B Bg i0 z bytes ht hi hz0 hz1 hz2 hzs hsz v n l hg hbl A m c news l2 F2 hm hr hall hfr hd2 hBg hB h63 hbytes
  unfold Oper.wp execOp
  simp only [ho, resolve, invoke, builtin, Sem.run_bind, Sem.run_pure, Result.andThen_ok, List.map_toArray, List.map_cons, List.map_nil, hs, hx, hrun]
  exact hK _ _ (h A' c' w' h2 h3 h4)

/-- append, at a step of a region that draws its order. -/
theorem step_growD {R : Rep α} {ops : Array Oper} {o : Oper} {a : Act} {K : Act → World → Prop} {Q : Exit → Act → World → Prop} {E : Prop} {w : World} (hgd : o.guard = none) (s x : Operand) (t : TypeId)
    (ho : o.op = .call { callee := .builtin .append, args := #[s, x], argTypes := #[t, t] })
    (w0 : World) (e : TypeId) (B Bg : Nat) {z : Value} {bytes : Nat} (ht : P.underlying t = some (.slice e)) (hinfo : (P.info? e).map (fun i => (i.zero, i.size, i.bytes)) = some (some z, R.size, bytes))
    (hzs : z.cells.size = R.size) (hsz : 0 < R.size)
    (v : Value) (n : Nat) (l : List α) (hs : a.eval s = v) (hg : Grow R e Bg w0 v n l) (hbl : Below w0.heap.size w0 w)
    (A : Option Addr) (m c : Nat) (news : List Value) (l2 : List α) (F2 : List Nat) (hx : a.eval x = .slice A m c) (hm : m = l2.length) (hr : Row w A news) (hall : R.all w news l2 F2) (hfr : Fresh B w F2) (hd2 : ∀ b ∈ F2, b < Bg ∨ w0.heap.size ≤ b) (hBg : B ≤ Bg) (hB : Bg ≤ w0.heap.size)
    (h63 : n + m ≤ 1000000000) (hbytes : bytes ≤ 100000)
    (h : ∀ A' c' w', Grow R e B w' (.slice A' (n + m) c') (n + m) (l ++ l2) → Below B w w' → w.grownBy w' v.ownBlock → K (a.put o.dst (.slice A' (n + m) c')) w') :
    if Region.wanted o (yielded ops a.tmps) = true then Oper.wp P o a w K Q else E := by
  have hw : Region.wanted o (yielded ops a.tmps) = true := by simp [Region.wanted, hgd]
  rw [if_pos hw]
  obtain ⟨i0, hi, hz0, hz1, hz2⟩ := info_parts hinfo
  obtain ⟨A', c', w', hrun, h2, h3, h4⟩ := run_growD (P := P) w0 w t o.type e B Bg i0 z bytes ht hi hz0 hz1 hz2 hzs hsz v n l hg hbl A m c news l2 F2 hm hr hall hfr hd2 hBg hB h63 hbytes
  unfold Oper.wp execOp
  simp only [ho, resolve, invoke, builtin, Sem.run_bind, Sem.run_pure, Result.andThen_ok, List.map_toArray, List.map_cons, List.map_nil, hs, hx, hrun]
  exact h A' c' w' h2 h3 h4
end

/-- A call hands back a slice that it owns whole (append may go on with it). -/
def OutGrow {α : Type} (R : Rep α) (t : TypeId) (l : List α) (w : World) (e : Ending) (w' : World) : Prop :=
  ∃ A cap, e = .returned (.slice A l.length cap) ∧ Grow R t w.heap.size w' (.slice A l.length cap) l.length l ∧ Below w.heap.size w w'
theorem OutGrow.sl {α : Type} {R : Rep α} {t : TypeId} {l : List α} {w : World} {e : Ending} {w' : World} (h : OutGrow R t l w e w') : OutSl R l w e w' := by
  obtain ⟨A, cap, rfl, hg, hb⟩ := h
  exact Grow.out hg hb
end Go.Proofs.YtlhanpkfnhnegaaDoor
