/- Running over abstract values is sound: operations that write or make memory. -/
import Derived.Test.YtlhanpkfnhnegaaDoorAvF
set_option linter.unusedVariables false
set_option linter.unusedSimpArgs false
set_option maxRecDepth 100000
namespace Go.Proofs.YtlhanpkfnhnegaaDoor
open Go.RowKit

section
variable {E : AEnv} {S : Base} {Z : Nat → Prop} {ρ : Nat → Value} {st : ASt} {a : Act} {w : World} {K : ASt → Prop} {o : Oper}

/-- Cells, one by one. -/
def RelL (Z : Nat → Prop) (w : World) (ρ : Nat → Value) (cs : List AC) (us : List Value) : Prop := us.length = cs.length ∧ ∀ (i : Nat) c u, cs[i]? = some c → us[i]? = some u → RelC Z w ρ c u
theorem solid_one {c : AC} {v : Value} (hs : aSolid [c] = true) (h : RelC Z w ρ c v) : v.oneCell' = true := by
  cases c with
  | dead => cases hs
  | und => cases hs
  | d x => exact RelD.one h
  | nil => have h : v = .slice none 0 0 := h; subst h; rfl
  | own id => exact h.2
  | ref id k s off => obtain ⟨b, _, e⟩ := h; subst e; rfl
  | ptr cs => obtain ⟨b, off, us, e, _⟩ := h; subst e; rfl
theorem solid_get : ∀ {cs : List AC}, aSolid cs = true → ∀ c ∈ cs, aSolid [c] = true
  | [], _, c, hc => by cases hc
  | x :: r, h, c, hc => by
    have hx : aSolid [x] = true ∧ aSolid r = true := by cases x <;> simp_all [aSolid]
    rcases List.mem_cons.1 hc with rfl | hc
    · exact hx.1
    · exact solid_get hx.2 c hc
theorem solid_all {cs : List AC} {us : List Value} (hs : aSolid cs = true) (h : RelL Z w ρ cs us) : ∀ u ∈ us, u.oneCell' = true := by
  intro u hu
  obtain ⟨i, hi, e⟩ := List.mem_iff_getElem.1 hu
  have hc : i < cs.length := by rw [← h.1]; exact hi
  exact solid_one (solid_get hs cs[i] (List.getElem_mem hc)) (h.2 i cs[i] u (List.getElem?_eq_getElem hc) (by rw [← e]; exact List.getElem?_eq_getElem hi))
theorem aCells_get {x : AV} {v : Value} (hx : RelV Z w ρ x v) {K : List AC → Prop} (hk : aCells x K) : ∃ cs, K cs ∧ aSolid cs = true ∧ RelL Z w ρ cs v.cells.toList := by
  unfold aCells at hk
  split at hk
  · split at hk
    · rename_i hs
      cases hx with
      | one c _ h =>
        have h1 := solid_one hs h
        have hv : v.cells = #[v] := by unfold Value.oneCell' at h1; unfold Value.cells; split <;> simp_all
        refine ⟨_, hk, hs, by rw [hv]; rfl, fun i c' u hc hu => ?_⟩
        rw [hv] at hu
        cases i with
        | zero => simp at hc hu; subst hc hu; exact h
        | succ i => simp at hc
    · exact hk.elim
  · split at hk
    · rename_i hs
      cases hx with
      | agg _ us hl h => exact ⟨_, hk, hs, by simp [Value.cells, hl], fun i c u hc hu => h i c u hc (by simpa [Value.cells] using hu)⟩
    · exact hk.elim
  · exact hk.elim
theorem aToD_get : ∀ {cs : List AC} {K : List AD → Prop}, aToD cs K → ∃ ds, K ds ∧ ds.length = cs.length ∧ ∀ {Z : Nat → Prop} {w : World} {ρ : Nat → Value} (i : Nat) d c v, ds[i]? = some d → cs[i]? = some c → RelC Z w ρ c v → RelD Z w d v
  | [], K, h => ⟨[], h, rfl, by simp⟩
  | .d x :: r, K, h => by
    obtain ⟨ds, hk, hl, hr⟩ := aToD_get (cs := r) h
    refine ⟨x :: ds, hk, by simp [hl], fun i d c v h1 h2 h3 => ?_⟩
    cases i with
    | zero => simp at h1 h2; subst h1 h2; exact h3
    | succ i => exact hr i d c v (by simpa using h1) (by simpa using h2) h3
  | .nil :: r, K, h => by
    obtain ⟨ds, hk, hl, hr⟩ := aToD_get (cs := r) h
    refine ⟨.sl [] :: ds, hk, by simp [hl], fun i d c v h1 h2 h3 => ?_⟩
    cases i with
    | zero =>
      simp at h1 h2
      subst h1 h2
      have h3 : v = .slice none 0 0 := h3
      subst h3
      exact .sl [] none 0 0 [] (Nat.le_refl _) (Nat.zero_le _) rfl (by simp) (by simp) (.inl rfl) (by simp)
    | succ i => exact hr i d c v (by simpa using h1) (by simpa using h2) h3
  | .dead :: _, _, h => h.elim
  | .und :: _, _, h => h.elim
  | .own _ :: _, _, h => h.elim
  | .ref _ _ _ _ :: _, _, h => h.elim
  | .ptr _ :: _, _, h => h.elim

/-- Storing cells into a block. -/
theorem run_storeCells_blk {P : Program} {b : Nat} {t : TypeId} : ∀ (vs : List Value) (off i : Nat) (w : World) (cur : Array Value), w.heap[b]? = some (.cells cur t (0, 0)) → (∀ v ∈ vs, v.oneCell' = true) → off + i + vs.length ≤ cur.size →
    ∃ w' cur', (storeCells ⟨b, off, none⟩ vs i).run P w = .ok () w' ∧ w.grownBy w' (some b) ∧ w'.heap[b]? = some (.cells cur' t (0, 0)) ∧ cur'.size = cur.size ∧ ∀ j : Nat, cur'[j]? = if off + i ≤ j ∧ j < off + i + vs.length then vs[j - (off + i)]? else cur[j]?
  | [], off, i, w, cur, hg, _, _ => by
    refine ⟨w, cur, rfl, World.grownBy.refl w _, hg, rfl, fun j => ?_⟩
    rw [if_neg (by simp)]
  | v :: r, off, i, w, cur, hg, h1, hlt => by
    simp only [List.length_cons] at hlt
    have hb : b < w.heap.size := (Array.getElem?_eq_some_iff.1 hg).1
    have ha : (⟨b, off, none⟩ : Addr).add i = ⟨b, off + i, none⟩ := by unfold Addr.add; split <;> simp_all
    have hc : w.cell? ⟨b, off + i, none⟩ = some cur[off + i] := by
      rw [cell_of_row w b (off + i) cur t (0, 0) hg]
      exact Array.getElem?_eq_getElem (by omega)
    have hf : w.frozen? ⟨b, off + i, none⟩ = false := by simp [World.frozen?, hg]
    have hg1 : (w.setCell ⟨b, off + i, none⟩ v).heap[b]? = some (.cells (cur.setIfInBounds (off + i) v) t (0, 0)) := by
      simp [World.setCell, Array.getElem?_modify, hg]
    obtain ⟨w', cur', hr, hgr, hg', hs, hj⟩ := run_storeCells_blk (P := P) r off (i + 1) _ _ hg1 (fun u hu => h1 u (by simp [hu])) (by simp; omega)
    refine ⟨w', cur', ?_, ?_, hg', by simpa using hs, fun j => ?_⟩
    · simp only [storeCells, ha, Sem.run_bind]
      rw [run_store P w _ v _ (h1 v (by simp)), hc]
      simp only [hf, Result.andThen_ok]
      exact hr
    · have h0 : w.grownBy (w.setCell ⟨b, off + i, none⟩ v) (some b) := ⟨rfl, rfl, rfl, by simp, fun k hk hne => Below.heap_setCell _ _ _ _ (fun e => hne (by rw [e]))⟩
      exact h0.trans hgr
    · rw [hj j]
      by_cases h2 : off + (i + 1) ≤ j ∧ j < off + (i + 1) + r.length
      · rw [if_pos h2, if_pos ⟨by omega, by simp; omega⟩]
        rw [show j - (off + i) = (j - (off + (i + 1))) + 1 by omega]
        rfl
      · rw [if_neg h2, Array.getElem?_setIfInBounds]
        by_cases h3 : off + i = j
        · subst h3
          rw [if_pos rfl, if_pos (by omega), if_pos ⟨Nat.le_refl _, by simp⟩, Nat.sub_self]
          rfl
        · rw [if_neg h3, if_neg]
          simp only [List.length_cons]
          omega

theorem run_storeVar_blk {t u : TypeId} {i : TI} (hi : TyFact E.P t i) {b off : Nat} {v : Value} (hv : v.cells.toList.length = i.size) (h1 : ∀ x ∈ v.cells.toList, x.oneCell' = true) {cur : Array Value} (hg : w.heap[b]? = some (.cells cur u (0, 0))) (hle : off + i.size ≤ cur.size) :
    ∃ w' cur', (storeVar t ⟨b, off, none⟩ v).run E.P w = .ok () w' ∧ w.grownBy w' (some b) ∧ w'.heap[b]? = some (.cells cur' u (0, 0)) ∧ cur'.size = cur.size ∧ ∀ j : Nat, cur'[j]? = if off ≤ j ∧ j < off + i.size then v.cells.toList[j - off]? else cur[j]? := by
  obtain ⟨w', cur', hr, h2, h3, h4, h5⟩ := run_storeCells_blk (P := E.P) v.cells.toList off 0 w cur hg h1 (by omega)
  refine ⟨w', cur', ?_, h2, h3, h4, fun j => by have := h5 j; rw [hv] at this; simpa using this⟩
  unfold storeVar
  have hz : v.cells.size = i.size := by simpa using hv
  simp only [Sem.run_bind, hi.sz, Result.andThen_ok, hz, ne_eq, not_true_eq_false, if_false, Sem.run_pure]
  exact hr

theorem flat_eq {us : List (List Value)} {s : Nat} (h : ∀ u ∈ us, u.length = s) {k r : Nat} {u : List Value} (hu : us[k]? = some u) (hr : r < s) : us.flatten[k * s + r]? = u[r]? := by
  have hl : r < u.length := by rw [h u (List.mem_of_getElem? hu)]; exact hr
  rw [List.getElem?_eq_getElem hl]
  exact flat_get h hu (List.getElem?_eq_getElem hl)
theorem set_len {us : List (List Value)} {s k : Nat} {nu : List Value} (h : ∀ u ∈ us, u.length = s) (hn : nu.length = s) : ∀ u ∈ us.set k nu, u.length = s := by
  intro u hu
  rcases List.mem_or_eq_of_mem_set hu with hu | rfl
  · exact h u hu
  · exact hn
theorem set_flat {us : List (List Value)} {s k off m : Nat} {nu vs cur cur' : List Value} (hus : ∀ u ∈ us, u.length = s) (hk : k < us.length) (hn : nu.length = s) (hc : cur.take (us.length * s) = us.flatten) (hlen : us.length * s ≤ cur.length) (hcl : cur'.length = cur.length) (hoff : off + m ≤ s)
    (hj : ∀ j : Nat, cur'[j]? = if k * s + off ≤ j ∧ j < k * s + off + m then vs[j - (k * s + off)]? else cur[j]?) (hnu : ∀ j, j < s → nu[j]? = if off ≤ j ∧ j < off + m then vs[j - off]? else us[k][j]?) : cur'.take (us.length * s) = (us.set k nu).flatten := by
  apply List.ext_getElem?
  intro q
  by_cases hq : q < us.length * s
  · have hs : 0 < s := by
      rcases Nat.eq_zero_or_pos s with h | h
      · rw [h] at hq; omega
      · exact h
    have hp : q / s < us.length := Nat.div_lt_of_lt_mul (by rwa [Nat.mul_comm] at hq)
    have hr : q % s < s := Nat.mod_lt _ hs
    have hqe : q / s * s + q % s = q := by rw [Nat.mul_comm]; exact Nat.div_add_mod q s
    generalize q / s = p at *
    generalize q % s = r at *
    subst hqe
    rw [List.getElem?_take, if_pos hq, hj]
    by_cases hpk : p = k
    · subst hpk
      rw [flat_eq (u := nu) (set_len hus hn) (by simp [hk]) hr, hnu r hr]
      by_cases h1 : off ≤ r ∧ r < off + m
      · rw [if_pos h1, if_pos (by omega)]
        congr 1
        omega
      · rw [if_neg h1, if_neg (by omega)]
        have := flat_eq hus (List.getElem?_eq_getElem hk) hr
        rw [← this, ← hc, List.getElem?_take, if_pos hq]
    · have hne : ¬ (k * s + off ≤ p * s + r ∧ p * s + r < k * s + off + m) := by
        rcases Nat.lt_or_gt_of_ne hpk with h | h
        · have : (p + 1) * s ≤ k * s := Nat.mul_le_mul_right s h
          rw [Nat.add_mul] at this
          omega
        · have : (k + 1) * s ≤ p * s := Nat.mul_le_mul_right s h
          rw [Nat.add_mul] at this
          omega
      rw [if_neg hne, flat_eq (u := us[p]) (set_len hus hn) (by rw [List.getElem?_set_ne (fun e => hpk e.symm)]; exact List.getElem?_eq_getElem hp) hr, ← flat_eq hus (List.getElem?_eq_getElem hp) hr, ← hc, List.getElem?_take, if_pos hq]
  · rw [List.getElem?_eq_none (by simp; omega), List.getElem?_eq_none (by rw [flat_len (set_len hus hn)]; simp; omega)]

theorem good_unit (h : Sim E.W S Z ρ st a w) {Z' : Nat → Prop} {ρ' : Nat → Value} {st' : ASt} {w' : World} (hs : Sim E.W S Z' ρ' st' a w') (hr : (execOp a.eval o).run E.P w = .ok .skip w') (hk : aDst st' o.dst (.one .und) K) : Good E S o a w K := by
  intro Q
  unfold Oper.wp
  rw [hr]
  exact ⟨_, ⟨Z', ρ', hs.put o.dst (.one _ _ (show RelC Z' w' ρ' .und undef from rfl))⟩, aDst_put hk⟩

theorem good_store (he : E.Ok) (h : Sim E.W S Z ρ st a w) {t : TypeId} {x v : Operand} (ho : o.op = .store t x v)
    (hk : aEv st x fun x => aEv st v fun v => aStore E st t x v fun st => aDst st o.dst (.one .und) K) : Good E S o a w K := by
  obtain ⟨vx, hx, hk⟩ := aEv_get h hk
  obtain ⟨vv, hv, hk⟩ := aEv_get h hk
  obtain ⟨i, hi, hk⟩ := aTI_get he hk
  obtain ⟨vs, hk, hsol, hrel⟩ := aCells_get hv hk
  split at hk
  · exact hk.elim
  · rename_i hlen
    have hlen := aLenIs_eq hlen
    have h1 := solid_all hsol hrel
    have hvl : (a.eval v).cells.toList.length = i.size := by rw [hrel.1, hlen]
    split at hk
    · rename_i id k s off _ _ _
      cases hx with
      | one _ _ hx =>
        obtain ⟨b, hb, e⟩ := hx
        obtain ⟨ob, hob, hk⟩ := aOb_get hk
        have hob' := h.ws.obj id ob hob
        split at hk
        · rename_i u cs
          split at hk
          · obtain ⟨b', us, hp, hg, hl, hc⟩ := hob'
            have hb' := hb
            rw [hp] at hb
            simp only [blkOf] at hb
            injection hb with hb
            subst hb
            obtain ⟨hle, cs', hk, hl', hcs⟩ := aSplice_get hk
            have hk := aSetO_get hk
            rw [Nat.zero_mul, Nat.zero_add] at e
            obtain ⟨w', cur', hr, hgr, hg', hsz, hj⟩ := run_storeVar_blk (w := w) (off := off) hi hvl h1 hg (by simp; omega)
            have hz := h.ws.zsame hgr (by rintro k ⟨rfl⟩; exact (h.ws.mine id _ b' hob hb').1)
            refine good_unit h (h.upd id _ (.cells u cs') hob hb' hgr ⟨b', cur'.toList, hp, by simpa using hg', by simp [hsz, hl, hl'], fun j c y h2 h3 => ?_⟩) ?_ hk
            · have h3' : cur'[j]? = some y := by simpa using h3
              rw [hj j] at h3'
              rcases hcs j c h2 with ⟨h4, h5⟩ | ⟨h4, h5⟩
              · have hjl : j - off < vs.length := (List.getElem?_eq_some_iff.1 h5).1
                rw [if_pos ⟨h4, by omega⟩] at h3'
                exact (hrel.2 _ c y h5 h3').mono (fun _ h => h) hz
              · rw [if_neg (by omega)] at h3'
                exact (hc j c y h5 (by simpa using h3')).mono (fun _ h => h) hz
            · simp [execOp, ho, e, Instr.storeAt, Instr.sureAddr, hr]
          · exact hk.elim
        · rename_i e' s' xs
          split at hk
          · rename_i hs
            have hs := Nat.eq_of_beq_eq_true hs
            subst hs
            obtain ⟨us, h0, hl, hxs, hus, hown, hd⟩ := hob'
            obtain ⟨k', ex, hkk, hex, hk⟩ := hk.h
            have hkk : k = k' := by omega
            subst hkk
            have hk := aMapD_get hk
            obtain ⟨hle, cs', hk, hl', hcs⟩ := aSplice_get hk
            obtain ⟨ds, hk, hdl, hdr⟩ := aToD_get hk
            have hk := aSetO_get hk
            have hkx : k < xs.length := (List.getElem?_eq_some_iff.1 hex).1
            have hku : k < us.length := by rw [hl]; exact hkx
            have hu1 : us[k]? = some us[k] := List.getElem?_eq_getElem hku
            have hul := hus us[k] (List.getElem_mem hku)
            have hxl := hxs ex (List.mem_of_getElem? hex)
            obtain ⟨cap, cur, hρ, hg, hnc, hcm, hcs2, ht⟩ := own_cells hown hb
            have hfl : us.flatten.length = us.length * s := flat_len hus
            simp only [List.length_map] at hle hl'
            have hks : k * s + s ≤ us.length * s := by
              have : (k + 1) * s ≤ us.length * s := Nat.mul_le_mul_right s (by omega)
              rw [Nat.add_mul] at this
              omega
            have hcap : us.length * s ≤ cap * s := Nat.mul_le_mul_right s (by omega)
            obtain ⟨w', cur', hr, hgr, hg', hsz, hj⟩ := run_storeVar_blk (w := w) (off := k * s + off) hi hvl h1 hg (by rw [hcs2]; omega)
            have hz := h.ws.zsame hgr (by rintro g ⟨rfl⟩; exact (h.ws.mine id _ b hob hb).1)
            -- the new cells of the element
            let nu : List Value := (List.range s).map fun j => if off ≤ j ∧ j < off + i.size then (a.eval v).cells.toList.getD (j - off) undef else us[k].getD j undef
            have hnul : nu.length = s := by simp [nu]
            have hnu : ∀ j, j < s → nu[j]? = if off ≤ j ∧ j < off + i.size then (a.eval v).cells.toList[j - off]? else us[k][j]? := by
              intro j hjs
              simp only [nu, List.getElem?_map, List.getElem?_range hjs, Option.map_some]
              by_cases hc : off ≤ j ∧ j < off + i.size
              · rw [if_pos hc, if_pos hc, List.getD, List.getElem?_eq_getElem (by omega)]; rfl
              · rw [if_neg hc, if_neg hc, List.getD, List.getElem?_eq_getElem (by omega)]; rfl
            refine good_unit h (h.upd id _ (.row e' s (xs.set k ds)) hob hb hgr ⟨us.set k nu, h0, by simp [hl], fun x hx => ?_, fun u hu => ?_, ⟨?_, .inr ⟨b, cap, cur', by rw [hρ]; simp, Nat.zero_le _, hg', by simpa using hnc, hcm, by rw [hsz, hcs2], ?_⟩⟩, fun p q x u d y h2 h3 h4 h5 => ?_⟩) ?_ hk
            · rcases List.mem_or_eq_of_mem_set hx with hx | rfl
              · exact hxs x hx
              · omega
            · exact set_len hus hnul u hu
            · rw [flat_len (set_len hus hnul)]
              simp [hl]
            · have := set_flat (cur := cur.toList) (cur' := cur'.toList) (off := off) (m := i.size) (vs := (a.eval v).cells.toList) hus hku hnul (by rw [hl]; exact ht) (by simp [hcs2]; omega) (by simp [hsz]) (by omega) (fun j => by simpa only [Array.getElem?_toList] using hj j) (by simpa only [Array.getElem?_toList] using hnu)
              rw [hl] at this
              simpa using this
            · by_cases hpk : k = p
              · subst hpk
                rw [List.getElem?_set_self (by simpa using hkx)] at h2
                rw [List.getElem?_set_self (by simpa using hku)] at h3
                injection h2 with h2
                injection h3 with h3
                subst h2 h3
                have hqs : q < s := by have := (List.getElem?_eq_some_iff.1 h5).1; omega
                rw [hnu q hqs] at h5
                have hqc : q < cs'.length := by have := (List.getElem?_eq_some_iff.1 h4).1; omega
                refine hdr q d cs'[q] y h4 (List.getElem?_eq_getElem hqc) ?_ (ρ := ρ)
                rcases hcs q _ (List.getElem?_eq_getElem hqc) with ⟨h6, h7⟩ | ⟨h6, h7⟩
                · have hql : q - off < vs.length := (List.getElem?_eq_some_iff.1 h7).1
                  rw [if_pos ⟨h6, by omega⟩] at h5
                  exact (hrel.2 _ _ y h7 h5).mono (fun _ h => h) hz
                · rw [if_neg (by omega)] at h5
                  rw [List.getElem?_map] at h7
                  obtain ⟨d0, h8, h9⟩ := Option.map_eq_some_iff.1 h7
                  rw [← h9]
                  exact (hd k q ex us[k] d0 y hex hu1 h8 h5).mono (fun _ h => h) hz
              · rw [List.getElem?_set_ne hpk] at h2 h3
                exact (hd p q x u d y h2 h3 h4 h5).mono (fun _ h => h) hz
            · simp [execOp, ho, e, Instr.storeAt, Instr.sureAddr, hr]
          · exact hk.elim
    · exact hk.elim
end
end Go.Proofs.YtlhanpkfnhnegaaDoor
