/- A slice that the call makes and appends to, its elements read: what append does to it. -/
import Derived.Test.YtlhanpkfnhnegaaDoorTypes
set_option linter.unusedVariables false
set_option linter.unusedSimpArgs false
set_option maxRecDepth 100000
namespace Go.Proofs.YtlhanpkfnhnegaaDoor
open Go.ChangeShapes Go.WideShapes Go.RowKit

/-- The value v is a slice of the call's own (blocks from B on) with n elements of type e that read as l; nothing in it shares memory. -/
def Grow {α : Type} (R : Rep α) (e : TypeId) (B : Nat) (w : World) (v : Value) (n : Nat) (l : List α) : Prop :=
  n = l.length ∧ ∃ xs F, w.ownsRow B e R.size v n xs ∧ R.all w xs l F ∧ Fresh B w F ∧ (∀ b ∈ F, v.ownBlock ≠ some b)

section
variable {α : Type} {R : Rep α} {e : TypeId} {B : Nat} {w w' : World} {v : Value} {n : Nat} {l : List α}

theorem Grow.none_ (R : Rep α) (e : TypeId) (B : Nat) (w : World) : Grow R e B w (.slice none 0 0) 0 [] :=
  ⟨rfl, [], [], World.ownsRow_nil w B e R.size, ⟨rfl, rfl⟩, Fresh.nil _ _, by simp⟩
theorem Grow.empty (R : Rep α) (e : TypeId) {B : Nat} (w : World) (hB : B ≤ w.heap.size) : Grow R e B (w.alloc (.cells #[] e)) (.slice (some ⟨w.heap.size, 0, none⟩) 0 0) 0 [] :=
  ⟨rfl, [], [], World.ownsRow_made w #[] 0 hB (Nat.zero_le _) (by simp), ⟨rfl, rfl⟩, Fresh.nil _ _, by simp⟩

theorem Grow.keep (h : Grow R e B w v n l) (hk : ∀ b, B ≤ b → b < w.heap.size → w'.heap[b]? = w.heap[b]?) : Grow R e B w' v n l := by
  obtain ⟨hn, xs, F, ho, ha, hf, hd⟩ := h
  have hF : ∀ b ∈ F, w'.heap[b]? = w.heap[b]? := fun b hb => hk b (hf.2 b hb).1 (hf.lt b hb)
  refine ⟨hn, xs, F, ⟨ho.1, ?_⟩, Rep.all_keep ha hF, hf.keep hF, hd⟩
  rcases ho.2 with h | ⟨g, cap, cur, hv, hb, hg, r⟩
  · exact .inl h
  · exact .inr ⟨g, cap, cur, hv, hb, (hk g hb (Array.getElem?_eq_some_iff.1 hg).1).trans hg, r⟩
theorem Grow.below (h : Grow R e B w v n l) (hb : Below w.heap.size w w') : Grow R e B w' v n l := h.keep fun b _ hl => hb.block b hl
theorem Grow.alloc (h : Grow R e B w v n l) (o : Obj) : Grow R e B (w.alloc o) v n l := h.keep fun b _ hl => Below.heap_alloc w o b hl
theorem Grow.drew (h : Grow R e B w v n l) : Grow R e B w.drew v n l := h.keep fun _ _ _ => rfl
theorem Grow.setCell_lo (h : Grow R e B w v n l) {p : Addr} (hp : p.block < B) (u : Value) : Grow R e B (w.setCell p u) v n l :=
  h.keep fun b hb _ => Below.heap_setCell w p u b (by omega)

theorem Grow.form (h : Grow R e B w v n l) : ∃ A cap, v = .slice A n cap := by
  obtain ⟨hn, xs, F, ho, _⟩ := h
  rcases ho.2 with ⟨rfl, rfl⟩ | ⟨g, cap, cur, rfl, _⟩
  · exact ⟨none, 0, rfl⟩
  · exact ⟨_, cap, rfl⟩

theorem Grow.own_lt (h : Grow R e B w v n l) : ∀ k, v.ownBlock = some k → B ≤ k ∧ k < w.heap.size := by
  obtain ⟨hn, xs, F, ho, _⟩ := h
  exact ho.lt

/-- What the call hands back. -/
theorem Grow.out {A : Option Addr} {cap : Nat} {w0 : World} (h : Grow R e w0.heap.size w (.slice A n cap) n l) (hb : Below w0.heap.size w0 w) : OutSl R l w0 (.returned (.slice A n cap)) w := by
  obtain ⟨rfl, xs, F, ho, ha, hf, hd⟩ := h
  obtain ⟨A', cap', e1, hrd, hh⟩ := Rep.sl_own (R := R) ho ha rfl
  injection e1 with e1 _ e2
  subst e1 e2
  refine ⟨A, cap, _, rfl, hrd, (Fresh.own ho rfl).join hf (fun b hb hb' => hd b hb' (hh b hb).1), hb⟩

/-- The same as a reading. -/
theorem Grow.res {A : Option Addr} {cap : Nat} (h : Grow R e B w (.slice A n cap) n l) : ∃ F, Res R.sl B w [.slice A l.length cap] l F := by
  obtain ⟨rfl, xs, F, ho, ha, hf, hd⟩ := h
  obtain ⟨A', cap', e1, hrd, hh⟩ := Rep.sl_own (R := R) ho ha rfl
  injection e1 with e1 _ e2
  subst e1 e2
  exact ⟨_, hrd, (Fresh.own ho rfl).join hf (fun b hb hb' => hd b hb' (hh b hb).1)⟩

end

section
variable {α : Type} {P : Program}
theorem run_grow {R : Rep α} (w0 w : World) (t ty e : TypeId) (B : Nat) (i : TypeInfo) (z : Value) (bytes : Nat) (ht : P.underlying t = some (.slice e)) (hi : P.info? e = some i) (hz : i.zero = some z)
    (hsize : i.size = R.size) (hby : i.bytes = bytes) (hzs : z.cells.size = R.size) (hsz : 0 < R.size)
    (v : Value) (n : Nat) (l : List α) (hg : Grow R e B w0 v n l) (hbl : Below w0.heap.size w0 w)
    (A : Option Addr) (m c : Nat) (news : List Value) (l2 : List α) (F2 : List Nat) (hm : m = l2.length) (hr : Row w A news) (hall : R.all w news l2 F2) (hfr : Fresh w0.heap.size w F2) (hB : B ≤ w0.heap.size)
    (h63 : n + m ≤ 1000000000) (hbytes : bytes ≤ 100000) :
    ∃ A' c' w', (Builtin.append_ #[t, t] ty #[v, .slice A m c]).run P w = .ok (.slice A' (n + m) c') w' ∧ Grow R e B w' (.slice A' (n + m) c') (n + m) (l ++ l2) ∧ Below B w w' ∧ w.grownBy w' v.ownBlock := by
  have hg' := hg.below hbl
  have hlt := hg.own_lt
  obtain ⟨hn, xs, F, ho, ha, hf, hd⟩ := hg
  obtain ⟨hn', xs', F', ho', ha', hf', hd'⟩ := hg'
  subst hm
  have hsz2 := hbl.size
  have hx : w.ownsRow B e R.size v n xs := by
    refine ⟨ho.1, ?_⟩
    rcases ho.2 with h | ⟨g, cap, cur, hv, hb, hg, r⟩
    · exact .inl h
    · exact .inr ⟨g, cap, cur, hv, hb, (hbl.block g (Array.getElem?_eq_some_iff.1 hg).1).trans hg, r⟩
  have hax : R.all w xs l F := Rep.all_keep ha fun b hb => hbl.block b (hf.lt b hb)
  have hb1 : (n + l2.length) * bytes ≤ 1000000000 * 100000 := Nat.mul_le_mul h63 hbytes
  obtain ⟨v', w', hrun, h2, h3, h5⟩ := run_append_row (P := P) w B t ty e i z R.size bytes ht hi hz hsize hby hzs hsz v n xs hx A l2.length c news (Rep.all_len hall) hr (Rep.all_one hall)
    (by unfold maxLen; omega) (by omega) (by omega)
  have hF : ∀ b ∈ F, w'.heap[b]? = w.heap[b]? := fun b hb => h3.block b (by have := hf.lt b hb; omega) (fun e => hd b hb e.symm)
  have hF2 : ∀ b ∈ F2, w'.heap[b]? = w.heap[b]? := fun b hb => h3.block b (hfr.lt b hb) (fun e => by have := (hlt b e.symm).2; have := (hfr.2 b hb).1; omega)
  have hG : Grow R e B w' v' (n + l2.length) (l ++ l2) := by
    refine ⟨by simp [hn], xs ++ news, F ++ F2, h2, Rep.all_append (Rep.all_keep hax hF) (Rep.all_keep hall hF2), ?_, ?_⟩
    · refine Fresh.join ((hf.keep (w' := w) fun b hb => hbl.block b (hf.lt b hb)).keep hF) ((hfr.mono hB).keep hF2) fun b hb hb' => ?_
      have := hf.lt b hb; have := (hfr.2 b hb').1; omega
    · intro b hb
      rcases List.mem_append.1 hb with hb | hb
      · rcases h5 with h | h
        · rw [h]; exact hd b hb
        · rw [h]; intro e; injection e with e; have := hf.lt b hb; omega
      · rcases h5 with h | h
        · rw [h]; intro e; have := (hlt b e).2; have := (hfr.2 b hb).1; omega
        · rw [h]; intro e; injection e with e; have := hfr.lt b hb; omega
  obtain ⟨A', c', rfl⟩ := hG.form
  exact ⟨A', c', w', hrun, hG, (Below.refl B w).grown h3 (by omega) (fun k hk => (hlt k hk).1), h3⟩

/-- append, at the list of a plain region's operations. -/
theorem wpList_grow {R : Rep α} {ops : Array Oper} {rest : List Oper} {o : Oper} {a : Act} {Q : Exit → Act → World → Prop} {w : World} (hgd : o.guard = none) (s x : Operand) (t : TypeId)
    (ho : o.op = .call { callee := .builtin .append, args := #[s, x], argTypes := #[t, t] })
    (w0 : World) (e : TypeId) (B : Nat) {z : Value} {bytes : Nat} (ht : P.underlying t = some (.slice e)) (hinfo : (P.info? e).map (fun i => (i.zero, i.size, i.bytes)) = some (some z, R.size, bytes))
    (hzs : z.cells.size = R.size) (hsz : 0 < R.size)
    (v : Value) (n : Nat) (l : List α) (hs : a.eval s = v) (hg : Grow R e B w0 v n l) (hbl : Below w0.heap.size w0 w)
    (A : Option Addr) (m c : Nat) (news : List Value) (l2 : List α) (F2 : List Nat) (hx : a.eval x = .slice A m c) (hm : m = l2.length) (hr : Row w A news) (hall : R.all w news l2 F2) (hfr : Fresh w0.heap.size w F2) (hB : B ≤ w0.heap.size)
    (h63 : n + m ≤ 1000000000) (hbytes : bytes ≤ 100000)
    (h : ∀ A' c' w', Grow R e B w' (.slice A' (n + m) c') (n + m) (l ++ l2) → Below B w w' → w.grownBy w' v.ownBlock → wpList P ops Q rest (a.put o.dst (.slice A' (n + m) c')) w') : wpList P ops Q (o :: rest) a w := by
  obtain ⟨i0, hi, hz0, hz1, hz2⟩ := info_parts hinfo
  refine wpList_plain hgd fun K hK => ?_
  obtain ⟨A', c', w', hrun, h2, h3, h4⟩ := run_grow (P := P) w0 w t o.type e B i0 z bytes ht hi hz0 hz1 hz2 hzs hsz v n l hg hbl A m c news l2 F2 hm hr hall hfr hB h63 hbytes
  unfold Oper.wp execOp
  simp only [ho, resolve, invoke, builtin, Sem.run_bind, Sem.run_pure, Result.andThen_ok, List.map_toArray, List.map_cons, List.map_nil, hs, hx, hrun]
  exact hK _ _ (h A' c' w' h2 h3 h4)

/-- append, at a step of a region that draws its order. -/
theorem step_grow {R : Rep α} {ops : Array Oper} {o : Oper} {a : Act} {K : Act → World → Prop} {Q : Exit → Act → World → Prop} {E : Prop} {w : World} (hgd : o.guard = none) (s x : Operand) (t : TypeId)
    (ho : o.op = .call { callee := .builtin .append, args := #[s, x], argTypes := #[t, t] })
    (w0 : World) (e : TypeId) (B : Nat) {z : Value} {bytes : Nat} (ht : P.underlying t = some (.slice e)) (hinfo : (P.info? e).map (fun i => (i.zero, i.size, i.bytes)) = some (some z, R.size, bytes))
    (hzs : z.cells.size = R.size) (hsz : 0 < R.size)
    (v : Value) (n : Nat) (l : List α) (hs : a.eval s = v) (hg : Grow R e B w0 v n l) (hbl : Below w0.heap.size w0 w)
    (A : Option Addr) (m c : Nat) (news : List Value) (l2 : List α) (F2 : List Nat) (hx : a.eval x = .slice A m c) (hm : m = l2.length) (hr : Row w A news) (hall : R.all w news l2 F2) (hfr : Fresh w0.heap.size w F2) (hB : B ≤ w0.heap.size)
    (h63 : n + m ≤ 1000000000) (hbytes : bytes ≤ 100000)
    (h : ∀ A' c' w', Grow R e B w' (.slice A' (n + m) c') (n + m) (l ++ l2) → Below B w w' → w.grownBy w' v.ownBlock → K (a.put o.dst (.slice A' (n + m) c')) w') :
    if Region.wanted o (yielded ops a.tmps) = true then Oper.wp P o a w K Q else E := by
  have hw : Region.wanted o (yielded ops a.tmps) = true := by simp [Region.wanted, hgd]
  rw [if_pos hw]
  obtain ⟨i0, hi, hz0, hz1, hz2⟩ := info_parts hinfo
  obtain ⟨A', c', w', hrun, h2, h3, h4⟩ := run_grow (P := P) w0 w t o.type e B i0 z bytes ht hi hz0 hz1 hz2 hzs hsz v n l hg hbl A m c news l2 F2 hm hr hall hfr hB h63 hbytes
  unfold Oper.wp execOp
  simp only [ho, resolve, invoke, builtin, Sem.run_bind, Sem.run_pure, Result.andThen_ok, List.map_toArray, List.map_cons, List.map_nil, hs, hx, hrun]
  exact h A' c' w' h2 h3 h4
end

/-- One element in a new block of its own: what 'append(xs, x)' appends. -/
theorem row_one {w : World} (cs : Array Value) (t : TypeId) : Row (w.alloc (.cells cs t)) (some ⟨w.heap.size, 0, none⟩) cs.toList := Row.new w cs t
theorem row_one_at {w : World} {cs : Array Value} {t : TypeId} {g : Nat} (h : g = w.heap.size) : Row (w.alloc (.cells cs t)) (some ⟨g, 0, none⟩) cs.toList := by subst h; exact Row.new w cs t
end Go.Proofs.YtlhanpkfnhnegaaDoor
