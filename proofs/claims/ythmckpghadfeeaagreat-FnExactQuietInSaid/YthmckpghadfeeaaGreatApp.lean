/- append onto a slice of the call's own from any source that is known by its cells; what a call hands back in new memory. -/
import Derived.Test.YthmckpghadfeeaaGreatRep
import Derived.RegionTactic
import Derived.OwnWalk
import Derived.Deep.RegionHeld3
set_option linter.unusedVariables false
set_option linter.unusedSimpArgs false
namespace Go.Proofs.YthmckpghadfeeaaGreat
open Go.ChangeShapes Go.WideShapes Go.RowKit

section
variable {P : Program} (w : World)

theorem run_append_of_nil (base : Nat) (t ty e : TypeId) (i : TypeInfo) (size : Nat) (ht : P.underlying t = some (.slice e)) (hi : P.info? e = some i)
    (v : Value) (n : Nat) (xs : List Value) (hown : w.ownsRow base e size v n xs) (c : Nat) : (Builtin.append_ #[t, t] ty #[v, .slice none 0 c]).run P w = .ok v w := by
  rcases hown.2 with ⟨rfl, rfl⟩ | ⟨g, cap, cur, rfl, _, _, hnc, _⟩
  · simp [Builtin.append_, run_underlying ht, sizeOf, typeInfo, hi, Builtin.lenOf, Builtin.firstCells]
  · simp [Builtin.append_, run_underlying ht, sizeOf, typeInfo, hi, Builtin.lenOf, Builtin.firstCells, hnc, storeCells]

theorem run_append_row (base : Nat) (t ty e : TypeId) (i : TypeInfo) (z : Value) (size bytes : Nat) (ht : P.underlying t = some (.slice e)) (hi : P.info? e = some i) (hz : i.zero = some z)
    (hsize : i.size = size) (hby : i.bytes = bytes) (hzs : z.cells.size = size) (hsz : 0 < size)
    (v : Value) (n : Nat) (xs : List Value) (hown : w.ownsRow base e size v n xs)
    (A : Option Addr) (m c : Nat) (news : List Value) (hl : news.length = m * size) (hr : Row w A news) (h1 : ∀ u ∈ news, u.oneCell' = true)
    (h63 : n + m ≤ maxLen) (hbytes : (n + m) * bytes ≤ 140737488355328) (hbase : base ≤ w.heap.size) :
    ∃ v' w', (Builtin.append_ #[t, t] ty #[v, .slice A m c]).run P w = .ok v' w' ∧ w'.ownsRow base e size v' (n + m) (xs ++ news) ∧ w.grownBy w' v.ownBlock ∧
      (v'.ownBlock = v.ownBlock ∨ v'.ownBlock = some w.heap.size) := by
  rcases A with _ | ad
  · have hn : news = [] := by
      rcases Nat.eq_zero_or_pos news.length with h0 | h0
      · exact List.eq_nil_of_length_eq_zero h0
      · obtain ⟨b, off, h, _⟩ := hr 0 h0
        cases h
    subst hn
    have hm : m = 0 := by
      have := hl
      simp only [List.length_nil] at this
      rcases Nat.mul_eq_zero.1 this.symm with h | h
      · exact h
      · omega
    subst hm
    exact ⟨v, w, run_append_of_nil w base t ty e i size ht hi v n xs hown c, by simpa using hown, World.grownBy.refl w _, .inl rfl⟩
  · have hcells : ∀ j u, news[j]? = some u → w.cell? (ad.add j) = some u := by
      intro j u hu
      obtain ⟨b, off, h, _, hc⟩ := hr j (List.getElem?_eq_some_iff.1 hu).1
      injection h with h
      subst h
      have := hc j u hu
      rwa [show (⟨b, off, none⟩ : Addr).add j = ⟨b, off + j, none⟩ by unfold Addr.add; split <;> simp_all]
    obtain ⟨v', w', hrun, h2, h3, _, h5⟩ := run_append_own_at (P := P) w base t ty e i z size bytes ht hi hz hsize hby hzs hsz v n xs hown ad m c news hl hcells h1 h63 hbytes hbase
    exact ⟨v', w', hrun, h2, h3, h5⟩

theorem wp_append_row {o : Oper} {a : Act} {K : Act → World → Prop} {Q : Exit → Act → World → Prop} (s x : Operand) (t : TypeId)
    (ho : o.op = .call { callee := .builtin .append, args := #[s, x], argTypes := #[t, t] })
    (base : Nat) (e : TypeId) (i : TypeInfo) (z : Value) (size bytes : Nat) (ht : P.underlying t = some (.slice e)) (hi : P.info? e = some i) (hz : i.zero = some z)
    (hsize : i.size = size) (hby : i.bytes = bytes) (hzs : z.cells.size = size) (hsz : 0 < size)
    (v : Value) (n : Nat) (xs : List Value) (hs : a.eval s = v) (hown : w.ownsRow base e size v n xs)
    (A : Option Addr) (m c : Nat) (news : List Value) (hx : a.eval x = .slice A m c) (hl : news.length = m * size) (hr : Row w A news) (h1 : ∀ u ∈ news, u.oneCell' = true)
    (h63 : n + m ≤ maxLen) (hbytes : (n + m) * bytes ≤ 140737488355328) (hbase : base ≤ w.heap.size)
    (h : ∀ v' w', w'.ownsRow base e size v' (n + m) (xs ++ news) → w.grownBy w' v.ownBlock → (v'.ownBlock = v.ownBlock ∨ v'.ownBlock = some w.heap.size) → K (a.put o.dst v') w') : o.wp P a w K Q := by
  obtain ⟨v', w', hrun, h2, h3, h4⟩ := run_append_row (P := P) w base t o.type e i z size bytes ht hi hz hsize hby hzs hsz v n xs hown A m c news hl hr h1 h63 hbytes hbase
  unfold Oper.wp execOp
  simp only [ho, resolve, invoke, builtin, Sem.run_bind, Sem.run_pure, Result.andThen_ok, List.map_toArray, List.map_cons, List.map_nil, hs, hx, hrun]
  exact h v' w' h2 h3 h4

theorem wpList_append_row {ops : Array Oper} {rest : List Oper} {o : Oper} {a : Act} {Q : Exit → Act → World → Prop} (hgd : o.guard = none) (s x : Operand) (t : TypeId)
    (ho : o.op = .call { callee := .builtin .append, args := #[s, x], argTypes := #[t, t] })
    (base : Nat) (e : TypeId) (i : TypeInfo) (z : Value) (size bytes : Nat) (ht : P.underlying t = some (.slice e)) (hi : P.info? e = some i) (hz : i.zero = some z)
    (hsize : i.size = size) (hby : i.bytes = bytes) (hzs : z.cells.size = size) (hsz : 0 < size)
    (v : Value) (n : Nat) (xs : List Value) (hs : a.eval s = v) (hown : w.ownsRow base e size v n xs)
    (A : Option Addr) (m c : Nat) (news : List Value) (hx : a.eval x = .slice A m c) (hl : news.length = m * size) (hr : Row w A news) (h1 : ∀ u ∈ news, u.oneCell' = true)
    (h63 : n + m ≤ maxLen) (hbytes : (n + m) * bytes ≤ 140737488355328) (hbase : base ≤ w.heap.size)
    (h : ∀ v' w', w'.ownsRow base e size v' (n + m) (xs ++ news) → w.grownBy w' v.ownBlock → (v'.ownBlock = v.ownBlock ∨ v'.ownBlock = some w.heap.size) → wpList P ops Q rest (a.put o.dst v') w') : wpList P ops Q (o :: rest) a w :=
  wpList_plain hgd fun _ hK => wp_append_row w s x t ho base e i z size bytes ht hi hz hsize hby hzs hsz v n xs hs hown A m c news hx hl hr h1 h63 hbytes hbase fun v' w' h2 h3 h4 => hK _ _ (h v' w' h2 h3 h4)

theorem step_append_row {ops : Array Oper} {o : Oper} {a : Act} {K : Act → World → Prop} {Q : Exit → Act → World → Prop} {E : Prop} (hgd : o.guard = none) (s x : Operand) (t : TypeId)
    (ho : o.op = .call { callee := .builtin .append, args := #[s, x], argTypes := #[t, t] })
    (base : Nat) (e : TypeId) (i : TypeInfo) (z : Value) (size bytes : Nat) (ht : P.underlying t = some (.slice e)) (hi : P.info? e = some i) (hz : i.zero = some z)
    (hsize : i.size = size) (hby : i.bytes = bytes) (hzs : z.cells.size = size) (hsz : 0 < size)
    (v : Value) (n : Nat) (xs : List Value) (hs : a.eval s = v) (hown : w.ownsRow base e size v n xs)
    (A : Option Addr) (m c : Nat) (news : List Value) (hx : a.eval x = .slice A m c) (hl : news.length = m * size) (hr : Row w A news) (h1 : ∀ u ∈ news, u.oneCell' = true)
    (h63 : n + m ≤ maxLen) (hbytes : (n + m) * bytes ≤ 140737488355328) (hbase : base ≤ w.heap.size)
    (h : ∀ v' w', w'.ownsRow base e size v' (n + m) (xs ++ news) → w.grownBy w' v.ownBlock → (v'.ownBlock = v.ownBlock ∨ v'.ownBlock = some w.heap.size) → K (a.put o.dst v') w') :
    if Region.wanted o (yielded ops a.tmps) = true then Oper.wp P o a w K Q else E := by
  have hw : Region.wanted o (yielded ops a.tmps) = true := by simp [Region.wanted, hgd]
  rw [if_pos hw]
  exact wp_append_row w s x t ho base e i z size bytes ht hi hz hsize hby hzs hsz v n xs hs hown A m c news hx hl hr h1 h63 hbytes hbase h
end

theorem bcell {W w1 : World} (hb : Below W.heap.size W w1) : (∀ b o, b < W.heap.size → w1.cell? ⟨b, o, none⟩ = W.cell? ⟨b, o, none⟩) ∧ (∀ b o, b < W.heap.size → w1.frozen? ⟨b, o, none⟩ = W.frozen? ⟨b, o, none⟩) :=
  ⟨fun b o h => hb.cell (p := ⟨b, o, none⟩) h, fun b o h => hb.frozen (p := ⟨b, o, none⟩) h⟩

/-- New memory: each block once, from B on, whole and unfrozen. -/
def Fresh (B : Nat) (w : World) (F : List Nat) : Prop := F.Nodup ∧ ∀ b ∈ F, B ≤ b ∧ ∃ cur t, w.heap[b]? = some (.cells cur t (0, 0))

/-- A call hands back a slice that reads as l, in new memory; all else is as it was. -/
def OutSl {α : Type} (R : Rep α) (l : List α) (w : World) (e : Ending) (w' : World) : Prop :=
  ∃ A cap F, e = .returned (.slice A l.length cap) ∧ R.sl.rd w' [.slice A l.length cap] l F ∧ Fresh w.heap.size w' F ∧ Below w.heap.size w w'
def OutAgg {α : Type} (R : Rep α) (a : α) (w : World) (e : Ending) (w' : World) : Prop :=
  ∃ cs F, e = .returned (.agg cs.toArray) ∧ R.rd w' cs a F ∧ Fresh w.heap.size w' F ∧ Below w.heap.size w w'

theorem Fresh.nil (B : Nat) (w : World) : Fresh B w [] := ⟨List.nodup_nil, by simp⟩
theorem Fresh.keep {B : Nat} {w w' : World} {F : List Nat} (h : Fresh B w F) (hk : ∀ b ∈ F, w'.heap[b]? = w.heap[b]?) : Fresh B w' F :=
  ⟨h.1, fun b hb => ⟨(h.2 b hb).1, by rw [hk b hb]; exact (h.2 b hb).2⟩⟩
theorem Fresh.lt {B : Nat} {w : World} {F : List Nat} (h : Fresh B w F) : ∀ b ∈ F, b < w.heap.size := fun b hb => by
  obtain ⟨_, cur, t, hc⟩ := h.2 b hb
  exact (Array.getElem?_eq_some_iff.1 hc).1
theorem Fresh.below {B : Nat} {w w' : World} {F : List Nat} (h : Fresh B w F) (hb : Below w.heap.size w w') : Fresh B w' F := h.keep fun b hm => hb.block b (h.lt b hm)
theorem Fresh.mono {B B' : Nat} {w : World} {F : List Nat} (h : Fresh B w F) (hB : B' ≤ B) : Fresh B' w F := ⟨h.1, fun b hb => ⟨Nat.le_trans hB (h.2 b hb).1, (h.2 b hb).2⟩⟩
theorem Fresh.join {B : Nat} {w : World} {F G : List Nat} (h : Fresh B w F) (k : Fresh B w G) (hd : ∀ b ∈ F, b ∉ G) : Fresh B w (F ++ G) := by
  refine ⟨List.nodup_append.2 ⟨h.1, k.1, fun a ha b hb e => hd a ha (e ▸ hb)⟩, fun b hb => ?_⟩
  rcases List.mem_append.1 hb with h' | h'
  · exact h.2 b h'
  · exact k.2 b h'
theorem Fresh.sub {B : Nat} {w : World} {F G : List Nat} (h : Fresh B w F) (hs : G.Sublist F) : Fresh B w G := ⟨h.1.sublist hs, fun b hb => h.2 b (hs.mem hb)⟩

/-- What an owned row's own block is: new memory. -/
theorem Fresh.own {w : World} {base : Nat} {e : TypeId} {size : Nat} {v : Value} {n : Nat} {xs : List Value} (h : w.ownsRow base e size v n xs) {A : Option Addr} {m c : Nat} (hv : v = .slice A m c) : Fresh base w (headOf A xs) := by
  subst hv
  unfold headOf
  split
  · exact Fresh.nil _ _
  · rcases h.2 with ⟨e1, h0⟩ | ⟨g, cap, cur, e1, hb, hg, _⟩
    · have hl := h.1
      rw [h0, Nat.zero_mul] at hl
      exact absurd (List.eq_nil_of_length_eq_zero hl) (by assumption)
    · injection e1 with e1 _ _
      subst e1
      exact ⟨by simp, fun b hm => by simp only [List.mem_singleton] at hm; subst hm; exact ⟨hb, cur, e, hg⟩⟩

theorem ints_all (w : World) (k : IntKind) : ∀ (xs : List Int), (∀ x ∈ xs, (Lit.int k x).wf = true) → (Rep.int k).all w (xs.map (Value.int k)) xs []
  | [], _ => ⟨rfl, rfl⟩
  | x :: r, h => ⟨[.int k x], r.map (Value.int k), [], [], rfl, rfl, ⟨rfl, h x (by simp), rfl⟩, ints_all w k r fun y hy => h y (by simp [hy])⟩
theorem ints_cells {w : World} {k : IntKind} : ∀ {xs : List Int} {cs : List Value} {F : List Nat}, (Rep.int k).all w cs xs F → cs = xs.map (Value.int k) ∧ F = [] ∧ ∀ x ∈ xs, (Lit.int k x).wf = true
  | [], _, _, ⟨rfl, rfl⟩ => ⟨rfl, rfl, by simp⟩
  | x :: r, _, _, ⟨c1, c2, F1, F2, rfl, rfl, h1, h2⟩ => by
    obtain ⟨rfl, rfl, hr⟩ := ints_cells h2
    obtain ⟨rfl, hw, rfl⟩ := h1
    exact ⟨rfl, rfl, by simpa [hw] using hr⟩

/-- A slice of whole numbers, opened: its cells. -/
theorem sl_ints {w : World} {k : IntKind} {xs : List Int} {v : Value} {F : List Nat} (h : (Rep.int k).sl.rd w [v] xs F) :
    ∃ A cap, v = .slice A xs.length cap ∧ xs.length ≤ cap ∧ cap ≤ maxLen ∧ Row w A (xs.map (Value.int k)) ∧ F = headOf A (xs.map (Value.int k)) ∧ ∀ x ∈ xs, (Lit.int k x).wf = true := by
  obtain ⟨A, cap, cs, F1, e, h1, h2, hr, ha, rfl⟩ := h
  obtain ⟨rfl, rfl, hw⟩ := ints_cells ha
  injection e with e _
  exact ⟨A, cap, e, h1, h2, hr, by simp, hw⟩
theorem sl_ints_mk {w : World} {k : IntKind} {xs : List Int} {A : Option Addr} {cap : Nat} (h1 : xs.length ≤ cap) (h2 : cap ≤ maxLen) (hr : Row w A (xs.map (Value.int k))) (hw : ∀ x ∈ xs, (Lit.int k x).wf = true) :
    (Rep.int k).sl.rd w [.slice A xs.length cap] xs (headOf A (xs.map (Value.int k))) :=
  ⟨A, cap, _, [], rfl, h1, h2, hr, ints_all w k xs hw, by simp⟩
theorem ints_onecell (k : IntKind) (xs : List Int) : ∀ u ∈ xs.map (Value.int k), u.oneCell' = true := by
  intro u hu
  obtain ⟨x, _, rfl⟩ := List.mem_map.1 hu
  simp [Value.oneCell']

/-- Cells that read as a datum, all of it in new memory from B on. -/
structure Res {α : Type} (R : Rep α) (B : Nat) (w : World) (cs : List Value) (a : α) (F : List Nat) : Prop where
  rd : R.rd w cs a F
  fresh : Fresh B w F

section
variable {α : Type} {R : Rep α} {B B' : Nat} {w w' : World} {cs : List Value} {a : α} {F : List Nat}
theorem Res.keep (h : Res R B w cs a F) (hk : ∀ b ∈ F, w'.heap[b]? = w.heap[b]?) : Res R B w' cs a F := ⟨R.keep h.rd hk, h.fresh.keep hk⟩
theorem Res.alloc (h : Res R B w cs a F) (o : Obj) : Res R B (w.alloc o) cs a F := h.keep fun b hm => Below.heap_alloc w o b (R.lt h.rd b hm)
theorem Res.drew (h : Res R B w cs a F) : Res R B w.drew cs a F := h.keep fun _ _ => rfl
theorem Res.drewN (h : Res R B w cs a F) (n : Nat) : Res R B (w.drewN n) cs a F := h.keep fun _ _ => rfl
theorem Res.setCell_lo (h : Res R B w cs a F) {p : Addr} (hp : p.block < B) (u : Value) : Res R B (w.setCell p u) cs a F :=
  h.keep fun b hm => Below.heap_setCell w p u b (fun e => by have := (h.fresh.2 b hm).1; omega)
theorem Res.setCell_hi (h : Res R B w cs a F) {p : Addr} (hp : ∀ b ∈ F, b < p.block) (u : Value) : Res R B (w.setCell p u) cs a F :=
  h.keep fun b hm => Below.heap_setCell w p u b (fun e => by have := hp b hm; omega)
theorem Res.below (h : Res R B w cs a F) (hb : Below w.heap.size w w') : Res R B w' cs a F := h.keep fun b hm => hb.block b (R.lt h.rd b hm)
theorem Res.mono (h : Res R B w cs a F) (hB : B' ≤ B) : Res R B' w cs a F := ⟨h.rd, h.fresh.mono hB⟩
theorem Res.grown_lo (h : Res R B w cs a F) {row : Option Nat} (hg : w.grownBy w' row) (hr : ∀ g, row = some g → g < B) : Res R B w' cs a F :=
  h.keep fun b hm => hg.block b (R.lt h.rd b hm) (fun e => by have := hr b e.symm; have := (h.fresh.2 b hm).1; omega)

theorem bodyPost_agg {P : Program} {fn : Func} {a0 : Act} {w0 : World} (hr : (results fn a0.tmps).run P w' = .ok (.agg cs.toArray) w') (hd : a0.defers = [])
    (h : Res R w0.heap.size w' cs a F) (hb : Below w0.heap.size w0 w') : bodyPost P fn (OutAgg R a w0) .ret a0 w' :=
  bodyPost_ret hr hd ⟨cs, F, rfl, h.rd, h.fresh, hb⟩
end

/-- Element k of a slice: where its cells lie. -/
theorem Rep.sl_at {α : Type} {R : Rep α} {w : World} {A : Option Addr} {xs : List Value} {l : List α} {F1 : List Nat} (hr : Row w A xs) (ha : R.all w xs l F1) (hs : 0 < R.size) {k : Nat} (hk : k < l.length) :
    ∃ b off cs F, A = some ⟨b, off, none⟩ ∧ R.rd w cs l[k] F ∧ (∀ g ∈ F, g ∈ F1) ∧ ∀ j u, cs[j]? = some u → w.cell? ⟨b, off + k * R.size + j, none⟩ = some u := by
  obtain ⟨cs, F, h1, h2, h3⟩ := Rep.all_at ha hk
  have hl := Rep.all_len ha
  have hx : k * R.size < xs.length := by rw [hl]; exact Nat.mul_lt_mul_of_pos_right hk hs
  obtain ⟨b, off, rfl, _, hc⟩ := hr _ hx
  exact ⟨b, off, cs, F, rfl, h1, h2, fun j u hu => by rw [Nat.add_assoc]; exact hc _ _ (h3 j u hu)⟩

/-- A slice opened: its row of cells and the elements' readings. -/
theorem Rep.sl_open {α : Type} {R : Rep α} {w : World} {A : Option Addr} {n cap : Nat} {l : List α} {F : List Nat} (h : R.sl.rd w [.slice A n cap] l F) :
    n = l.length ∧ l.length ≤ cap ∧ cap ≤ maxLen ∧ ∃ xs F1, Row w A xs ∧ R.all w xs l F1 ∧ F = headOf A xs ++ F1 := by
  obtain ⟨A', cap', xs, F1, e1, h1, h2, hr, ha, hF⟩ := h
  injection e1 with e1 _
  injection e1 with e1 e2 e3
  subst e1 e2 e3
  exact ⟨rfl, h1, h2, xs, F1, hr, ha, hF⟩
theorem take_succ_get {α : Type} {l : List α} {k : Nat} (h : k < l.length) : l.take (k + 1) = l.take k ++ [l[k]] := by
  rw [List.take_succ_eq_append_getElem h]
end Go.Proofs.YthmckpghadfeeaaGreat
