/- Running over abstract values is sound: new memory, append, calls; all operations. -/
import Derived.Test.YtlhanpkfnhnegaaDoorAvG
import Derived.Test.YtlhanpkfnhnegaaDoorApp
set_option linter.unusedVariables false
set_option linter.unusedSimpArgs false
set_option maxRecDepth 100000
namespace Go.Proofs.YtlhanpkfnhnegaaDoor
open Go.RowKit

section
variable {E : AEnv} {S : Base} {Z : Nat → Prop} {ρ : Nat → Value} {st : ASt} {a : Act} {w : World} {K : ASt → Prop} {o : Oper}

theorem grownBy_alloc (w : World) (ob : Obj) (row : Option Nat) : w.grownBy (w.alloc ob) row := ⟨rfl, rfl, rfl, by simp, fun k hk _ => Below.heap_alloc w ob k hk⟩

theorem good_step {x : AV} {v : Value} {st' : ASt} {Z' : Nat → Prop} {ρ' : Nat → Value} {w' : World} (hs : Sim E.W S Z' ρ' st' a w') (hx : RelV Z' w' ρ' x v) (hr : (execOp a.eval o).run E.P w = .ok (.value v) w') (hk : aDst st' o.dst x K) : Good E S o a w K := by
  intro Q
  unfold Oper.wp
  rw [hr]
  exact ⟨_, ⟨Z', ρ', hs.put o.dst hx⟩, aDst_put hk⟩

/-- A variable is made. -/
theorem good_newCells (h : Sim E.W S Z ρ st a w) {t : TypeId} {cs : List AC} {v : Value} (hrel : RelL Z w ρ cs v.cells.toList)
    (hr : (execOp a.eval o).run E.P w = .ok (.value (.pointer (some ⟨w.heap.size, 0, none⟩))) (w.alloc (.cells v.cells t)))
    (hk : aBox st o.dst t cs K) : Good E S o a w K := by
  unfold aBox at hk
  split at hk
  · rename_i d hd
    have hk := aKillCs_get hk
    have hk := aNew_get hk
    have hg := grownBy_alloc w (.cells v.cells t) none
    have hz := h.ws.zsame hg (by simp)
    have hs := h.renew d (.pointer (some ⟨w.heap.size, 0, none⟩)) (.cells t (cs.map (killC d))) hg (by simp) (fun b hb => .inr (by simp [blkOf] at hb; omega))
      ⟨w.heap.size, v.cells.toList, by simp, by rw [Array.toArray_toList]; exact heap_alloc_new w _, by simp [hrel.1], fun i c u h1 h2 => by
        rw [List.getElem?_map] at h1
        obtain ⟨c0, h0, rfl⟩ := Option.map_eq_some_iff.1 h1
        exact killC_rel ((hrel.2 i c0 u h0 h2).mono (fun _ h => h) hz)⟩
    refine good_step hs (relV_ref (id := d) (k := 0) (s := 0) (off := 0) (b := w.heap.size) (by simp [blkOf]) (by simp)) hr ?_
    rw [hd]
    exact hk
  · exact hk.elim

theorem good_box (h : Sim E.W S Z ρ st a w) {t : TypeId} {x : Operand} (ho : o.op = .box t x) (hk : aEv st x fun x => aCells x fun cs => aBox st o.dst t cs K) : Good E S o a w K := by
  obtain ⟨vx, hx, hk⟩ := aEv_get h hk
  obtain ⟨cs, hk, _, hrel⟩ := aCells_get hx hk
  refine good_newCells h hrel ?_ hk
  simp [execOp, ho, Instr.box, newVar, newRow]

theorem aZero_get {z : Value} {K : List AC → Prop} (hk : aZero z K) : ∃ cs, K cs ∧ aSolid cs = true ∧ ∀ (Z : Nat → Prop) (w : World) (ρ : Nat → Value), RelL Z w ρ cs z.cells.toList := by
  unfold aZero at hk
  split at hk
  · rename_i cs
    have hk := aOfL_map hk
    split at hk
    · rename_i hs
      refine ⟨_, hk, hs, fun Z w ρ => ⟨by simp [Value.cells], fun i c u h1 h2 => ?_⟩⟩
      rw [List.getElem?_map] at h1
      obtain ⟨u0, h0, rfl⟩ := Option.map_eq_some_iff.1 h1
      have h2' : cs.toList[i]? = some u := h2
      rw [h2'] at h0
      injection h0 with h0
      subst h0
      exact ofC_rel ..
    · exact hk.elim
  · rename_i hz
    have hk := aOfC_get hk
    split at hk
    · rename_i hs
      refine ⟨_, hk, hs, fun Z w ρ => ?_⟩
      have hv : z.cells = #[z] := by
        unfold Value.cells
        split
        · exact absurd rfl (hz _)
        · rfl
      rw [hv]
      refine ⟨rfl, fun i c u h1 h2 => ?_⟩
      cases i with
      | zero => simp at h1 h2; subst h1 h2; exact ofC_rel ..
      | succ i => simp at h1
    · exact hk.elim
theorem TyFact.zr {P : Program} {t : TypeId} {i : TI} (h : TyFact P t i) (w : World) : (zeroValue t).run P w = .ok i.zero w := by
  obtain ⟨j, hj, hz, _⟩ := h.info'
  simp [zeroValue, typeInfo, hj, hz]

theorem good_alloc (he : E.Ok) (h : Sim E.W S Z ρ st a w) {t : TypeId} (ho : o.op = .alloc t) (hk : aTI E.T t fun i => aZero i.zero fun cs => aBox st o.dst t cs K) : Good E S o a w K := by
  obtain ⟨i, hi, hk⟩ := aTI_get he hk
  obtain ⟨cs, hk, _, hrel⟩ := aZero_get hk
  refine good_newCells h (hrel Z w ρ) ?_ hk
  simp [execOp, ho, Instr.alloc, hi.zr, newVar, newRow]

/-- Cells laid over others, as the model does it. -/
theorem foldl_set : ∀ (vs : List Value) (off n : Nat) (cells : Array Value), off + n + vs.length ≤ cells.size →
    ((vs.zipIdx n).foldl (fun cs (p : Value × Nat) => cs.setIfInBounds (off + p.2) p.1) cells).size = cells.size ∧
    ∀ j : Nat, ((vs.zipIdx n).foldl (fun cs (p : Value × Nat) => cs.setIfInBounds (off + p.2) p.1) cells)[j]? = if off + n ≤ j ∧ j < off + n + vs.length then vs[j - (off + n)]? else cells[j]?
  | [], off, n, cells, _ => ⟨rfl, fun j => by rw [if_neg (by simp)]; rfl⟩
  | v :: r, off, n, cells, h => by
    simp only [List.length_cons] at h
    obtain ⟨h1, h2⟩ := foldl_set r off (n + 1) (cells.setIfInBounds (off + n) v) (by simp; omega)
    refine ⟨by rw [List.zipIdx_cons, List.foldl_cons, h1]; simp, fun j => ?_⟩
    rw [List.zipIdx_cons, List.foldl_cons, h2 j]
    by_cases h3 : off + (n + 1) ≤ j ∧ j < off + (n + 1) + r.length
    · rw [if_pos h3, if_pos ⟨by omega, by simp; omega⟩, show j - (off + n) = (j - (off + (n + 1))) + 1 by omega]
      rfl
    · rw [if_neg h3, Array.getElem?_setIfInBounds]
      by_cases h4 : off + n = j
      · subst h4
        rw [if_pos rfl, if_pos (by omega), if_pos ⟨Nat.le_refl _, by simp⟩, Nat.sub_self]
        rfl
      · rw [if_neg h4, if_neg]
        simp only [List.length_cons]
        omega
theorem fill_cons {place : Nat → Option (Nat × Nat)} {i : Nat} {v : Value} {rest : List (Nat × Value)} {off : Nat} {us : List Value} (hp : place i = some (off, v.cells.toList.length)) (hle : off + v.cells.toList.length ≤ us.length) :
    ∃ us' : List Value, us'.length = us.length ∧ (∀ j : Nat, us'[j]? = if off ≤ j ∧ j < off + v.cells.toList.length then v.cells.toList[j - off]? else us[j]?) ∧ Instr.fill place us.toArray ((i, v) :: rest) = Instr.fill place us'.toArray rest := by
  obtain ⟨h1, h2⟩ := foldl_set v.cells.toList off 0 us.toArray (by simpa using hle)
  refine ⟨((v.cells.toList.zipIdx 0).foldl (fun cs (p : Value × Nat) => cs.setIfInBounds (off + p.2) p.1) us.toArray).toList, by simpa using h1, fun j => ?_, ?_⟩
  · rw [Array.getElem?_toList, h2 j]
    simp
  · have e1 : ¬ ((v.cells.size ≠ v.cells.toList.length || off + v.cells.size > us.toArray.size) = true) := by simp at hle ⊢; omega
    have e2 : (v.cells.zipIdx.foldl (fun cs (x : Value × Nat) => cs.setIfInBounds (off + x.2) x.1) us.toArray) = ((v.cells.toList.zipIdx 0).foldl (fun cs (p : Value × Nat) => cs.setIfInBounds (off + p.2) p.1) us.toArray) := by
      rw [← Array.foldl_toList, Array.toList_zipIdx]
    rw [Instr.fill, hp]
    simp only
    rw [if_neg (by simpa using e1)]
    rw [← e2]

theorem aFill_get (h : Sim E.W S Z ρ st a w) {pl : Nat → (Nat × Nat → Prop) → Prop} {place : Nat → Option (Nat × Nat)} (hpl : ∀ i Kp, pl i Kp → ∃ p, place i = some p ∧ Kp p) :
    ∀ (parts : List (Nat × Operand)) (l : List AC) (us : List Value) (K : List AC → Prop), RelL Z w ρ l us → aFill st pl parts l K →
      ∃ us' l', Instr.fill place us.toArray (parts.map fun p => (p.1, a.eval p.2)) = some us'.toArray ∧ RelL Z w ρ l' us' ∧ K l'
  | [], l, us, K, hr, hk => ⟨us, l, rfl, hr, hk⟩
  | (i, x) :: r, l, us, K, hr, hk => by
    obtain ⟨p, hp, hk⟩ := hpl _ _ hk
    obtain ⟨v, hv, hk⟩ := aEv_get h hk
    obtain ⟨vs, hk, hsol, hvs⟩ := aCells_get hv hk
    split at hk
    · rename_i hlen
      have hlen := aLenIs_eq hlen
      obtain ⟨hle, l', hk, hl', hcs⟩ := aSplice_get hk
      have hp' : place i = some (p.1, (a.eval x).cells.toList.length) := by rw [hvs.1, hlen, hp]
      obtain ⟨us', hul, huj, hf⟩ := fill_cons (rest := r.map fun p => (p.1, a.eval p.2)) hp' (us := us) (by rw [hvs.1, hr.1]; exact hle)
      have hr' : RelL Z w ρ l' us' := by
        refine ⟨by rw [hul, hr.1, hl'], fun j c u h1 h2 => ?_⟩
        rw [huj j] at h2
        rcases hcs j c h1 with ⟨h4, h5⟩ | ⟨h4, h5⟩
        · have : j - p.1 < vs.length := (List.getElem?_eq_some_iff.1 h5).1
          rw [if_pos ⟨h4, by rw [hvs.1]; omega⟩] at h2
          exact hvs.2 _ c u h5 h2
        · rw [if_neg (by rw [hvs.1]; omega)] at h2
          exact hr.2 j c u h5 h2
      obtain ⟨us2, l2, hf2, hr2, hk⟩ := aFill_get h hpl r l' us' K hr' hk
      exact ⟨us2, l2, by rw [List.map_cons, hf, hf2], hr2, hk⟩
    · exact hk.elim

theorem relL_agg {l : List AC} {us : List Value} (h : RelL Z w ρ l us) : RelV Z w ρ (.agg l) (.agg us.toArray) := .agg l us h.1 h.2

theorem aPlaces_get (he : E.Ok) : ∀ {fs : List Field} {K : List (Nat × Nat) → Prop}, aPlaces E (fs.map fun f => (f.offset, f.type)) K → ∃ places, fs.mapM (fun f => (E.P.info? f.type).map fun i => (f.offset, i.size)) = some places ∧ K places
  | [], K, h => ⟨[], rfl, h⟩
  | f :: r, K, h => by
    obtain ⟨j, hj, h⟩ := aTI_get he h
    obtain ⟨q, hq, hk⟩ := aPlaces_get he (fs := r) h
    obtain ⟨jj, hjj, _, hjs, _⟩ := hj.info'
    refine ⟨_, ?_, hk⟩
    simp [List.mapM_cons, hjj, hjs, hq]

theorem reads_build {K : AV → Prop} (he : E.Ok) (h : Sim E.W S Z ρ st a w) {t : TypeId} {ps : Array (Nat × Operand)} (ho : o.op = .build t ps)
    (hk : aBuild E st t ps.toList K) : Reads E Z ρ o a w K := by
  obtain ⟨i, hi, hk⟩ := aTI_get he hk
  obtain ⟨z, hk, _, hz⟩ := aZero_get hk
  have hps : (ps.map fun (i, x) => (i, a.eval x)).toList = ps.toList.map fun p => (p.1, a.eval p.2) := by simp
  split at hk
  · rename_i fs hfs
    obtain ⟨fields, hu, hf⟩ := hi.stf hfs
    subst hf
    obtain ⟨places, hp, hk⟩ := aPlaces_get he hk
    obtain ⟨us', l', hf2, hr2, hk⟩ := aFill_get h (place := fun n => places[n]?) (fun n Kp hp => aNth_get hp) ps.toList z i.zero.cells.toList _ (hz Z w ρ) hk
    refine ⟨_, _, (relL_agg hr2), ?_, hk⟩
    simp only [Array.toArray_toList] at hf2
    have hrun := run_places (P := E.P) w fields.toList places hp
    simp only [execOp, ho, Instr.build, Sem.run_bind, hi.zr, Result.andThen_ok, run_underlying hu, Array.mapM_eq_mapM_toList, hps]
    simp [hrun, hf2]
  · rename_i n e hfs
    have hu := hi.arr hfs
    obtain ⟨j, hj, hk⟩ := aTI_get he hk
    obtain ⟨us', l', hf2, hr2, hk⟩ := aFill_get h (place := fun n => some (n * j.size, j.size)) (fun n Kp hp => ⟨_, rfl, hp⟩) ps.toList z i.zero.cells.toList _ (hz Z w ρ) hk
    refine ⟨_, _, (relL_agg hr2), ?_, hk⟩
    simp only [Array.toArray_toList] at hf2
    simp only [execOp, ho, Instr.build, Sem.run_bind, hi.zr, Result.andThen_ok, run_underlying hu, hj.sz, hps, hf2, Sem.run_pure]
  · exact hk.elim

/-- A row is made. -/
theorem good_newRow (he : E.Ok) (h : Sim E.W S Z ρ st a w) {e : TypeId} {j : TI} (hj : TyFact E.P e j) {xs : List (List AD)} {us : List (List Value)} {v : Value} {w' : World}
    (hl : us.length = xs.length) (hxs : ∀ x ∈ xs, x.length = j.size) (hus : ∀ u ∈ us, u.length = j.size) (hd : ∀ (i k : Nat) x u p q, xs[i]? = some x → us[i]? = some u → x[k]? = some p → u[k]? = some q → RelD Z w p q)
    (hown : w'.ownsRow 0 e j.size v xs.length us.flatten) (hg : w.grownBy w' none) (hv : ∀ b, blkOf v = some b → w.heap.size ≤ b)
    (hr : (execOp a.eval o).run E.P w = .ok (.value v) w') (hk : aRowNew E st o.dst e xs K) : Good E S o a w K := by
  obtain ⟨j', hj', hk⟩ := aTI_get he hk
  have hjj : j'.size = j.size := by
    obtain ⟨x, hx, _, hs, _⟩ := hj.info'
    obtain ⟨y, hy, _, hs', _⟩ := hj'.info'
    rw [hx] at hy
    injection hy with hy
    subst hy
    rw [← hs, ← hs']
  split at hk
  · exact hk.elim
  · rename_i s hs
    split at hk
    · rename_i d hdst
      have hk := aNew_get hk
      have hz := h.ws.zsame hg (by simp)
      have hsz : j.size = s + 1 := by omega
      have h1 : v.oneCell' = true := by rcases hown.2 with ⟨rfl, _⟩ | ⟨g, cap, cur, rfl, _⟩ <;> rfl
      have hs' := h.renew d v (.row e (s + 1) xs) hg (by simp) (fun b hb => .inr (hv b hb))
        ⟨us, by omega, hl, fun x hx => (hxs x hx).trans hsz, fun u hu => (hus u hu).trans hsz, by simpa [hsz] using hown, fun i k x u p q h2 h3 h4 h5 => (hd i k x u p q h2 h3 h4 h5).mono (fun _ h => h) hz⟩
      refine good_step hs' (relV_own (id := d) (by simp) h1) hr ?_
      rw [hdst]
      exact hk
    · exact hk.elim
end
end Go.Proofs.YtlhanpkfnhnegaaDoor
