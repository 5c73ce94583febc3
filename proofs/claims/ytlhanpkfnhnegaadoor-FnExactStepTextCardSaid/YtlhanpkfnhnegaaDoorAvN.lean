/- Regions that draw their order: free operations are sound; the region's rule. -/
import Derived.Test.YtlhanpkfnhnegaaDoorAvM
set_option linter.unusedVariables false
set_option linter.unusedSimpArgs false
set_option maxRecDepth 100000
namespace Go.Proofs.YtlhanpkfnhnegaaDoor
open Go.RowKit

section
variable {E : AEnv} {S : Base} {Z : Nat → Prop} {ρ : Nat → Value} {st : ASt} {a : Act} {w : World} {o : Oper}

/-- What a free operation shows of its outcome. -/
def FreeAt (E : AEnv) (Z : Nat → Prop) (ρ : Nat → Value) (o : Oper) (a : Act) (w : World) (v : AV) (oo : Option AO) : Prop :=
  ∀ (Kont : Act → World → Prop) Q,
    (∀ v' w' Z' ρ', w.grownBy w' none → (∀ b, Z b → Z' b) → (∀ b, Z' b → Z b ∨ (w.heap.size ≤ b ∧ b < w'.heap.size)) → RelV Z' w' ρ' v v' →
      (match oo with
        | none => ρ' = ρ
        | some ob => ∃ d, o.dst = some d ∧ ρ' = (fun i => if i = d then v' else ρ i) ∧ (∀ b, blkOf v' = some b → w.heap.size ≤ b) ∧ RelO Z' w' ρ' d ob ∧ Z' = Z) → Kont (a.put o.dst v') w') → Oper.wp E.P o a w Kont Q

theorem freeAt_reads {K : AV → Option AO → Prop} (h : Reads E Z ρ o a w fun v => K v none) : ∃ v oo, FreeAt E Z ρ o a w v oo ∧ K v oo := by
  obtain ⟨x, v, hx, hr, hk⟩ := h
  refine ⟨x, none, fun Kont Q hK => ?_, hk⟩
  unfold Oper.wp
  rw [hr]
  exact hK v w Z ρ (World.grownBy.refl w _) (fun _ h => h) (fun _ h => .inl h) hx rfl
theorem freeAt_or {K : AV → Option AO → Prop} (h : Reads E Z ρ o a w (fun v => K v none) ∨ False) : ∃ v oo, FreeAt E Z ρ o a w v oo ∧ K v oo := by
  rcases h with h | h
  · exact freeAt_reads h
  · exact h.elim
theorem noIdCs_all {id : Nat} : ∀ {cs : List AC}, noIdCs id cs = true → cs.all (noIdC id) = true
  | [], _ => rfl
  | c :: r, h => by
    simp only [noIdCs] at h
    split at h
    · rename_i hc; simp [hc, noIdCs_all h]
    · cases h

theorem freeAt_box {K : AV → Option AO → Prop} (h : Sim E.W S Z ρ st a w) {t : TypeId} {cs : List AC} {v : Value} (hrel : RelL Z w ρ cs v.cells.toList)
    (hr : (execOp a.eval o).run E.P w = .ok (.value (.pointer (some ⟨w.heap.size, 0, none⟩))) (w.alloc (.cells v.cells t))) (hk : aFBox o.dst t cs K) : ∃ x oo, FreeAt E Z ρ o a w x oo ∧ K x oo := by
  unfold aFBox at hk
  split at hk
  · rename_i d hd
    split at hk
    · rename_i hno
      have hno := noIdCs_all hno
      refine ⟨_, _, fun Kont Q hK => ?_, hk⟩
      unfold Oper.wp
      rw [hr]
      have hg := grownBy_alloc w (.cells v.cells t) none
      have hz := h.ws.zsame hg (by simp)
      refine hK _ _ Z (fun i => if i = d then .pointer (some ⟨w.heap.size, 0, none⟩) else ρ i) hg (fun _ h => h) (fun _ h => .inl h) (relV_ref (id := d) (k := 0) (s := 0) (off := 0) (b := w.heap.size) (by simp [blkOf]) (by simp)) ⟨d, hd, rfl, fun b hb => by simp [blkOf] at hb; omega, ?_, rfl⟩
      refine ⟨w.heap.size, v.cells.toList, by simp, by rw [Array.toArray_toList]; exact heap_alloc_new w _, hrel.1, fun i c u h1 h2 => ?_⟩
      have hc : killC d c = c := noIdC_kill (List.all_eq_true.1 hno c (List.mem_of_getElem? h1))
      have := killC_rel (id := d) (y := .pointer (some ⟨w.heap.size, 0, none⟩)) ((hrel.2 i c u h1 h2).mono (fun _ h => h) hz)
      rwa [hc] at this
    · exact hk.elim
  · exact hk.elim

theorem freeAt_call {K : AV → Option AO → Prop} (h : Sim E.W S Z ρ st a w) {f : FuncId} {args : List AV} {us : List Value} (hl : us.length = args.length) (hrel : ∀ (i : Nat) x u, args[i]? = some x → us[i]? = some u → RelV Z w ρ x u)
    (hr : (execOp a.eval o).run E.P w = (callFunc f us.toArray).run E.P w) (hk : AFCall E st.ob f args fun r => K r none) : ∃ x oo, FreeAt E Z ρ o a w x oo ∧ K x oo := by
  obtain ⟨ps, res, hc, hargs, hk⟩ := hk.h
  refine ⟨_, _, fun Kont Q hK => ?_, hk⟩
  unfold Oper.wp
  rw [hr, hc.enter]
  rcases hargs with hps | ⟨hps, hsc⟩
  · have hws0 : WS E.W S Z w ρ [] := h.ws.sub SubO.nil
    obtain ⟨ps', h1, h2, rfl⟩ := aRs_get (st := ⟨[], []⟩) hws0 hl hrel (aPs_rs hps)
    refine (hc.run Z w us h.ws.zlt h.ws.g h1 fun i p u h3 h4 => ?_).mono ?_
    · have := h2 i p u h3 h4
      have hz : ∀ b, ZOwn Z ρ [] b → Z b := by rintro b (hb | ⟨id, o, ho, _⟩); exact hb; cases ho
      cases p with
      | one d => exact RelD.mono hz (fun _ _ => rfl) this
      | agg ds => obtain ⟨us, e, hl, hr⟩ := this; exact ⟨us, e, hl, fun i d u h5 h6 => (hr i d u h5 h6).mono hz fun _ _ => rfl⟩
    · rintro e w' ⟨v, Z', rfl, hb, hz, hz2, hv⟩
      exact hK v w' Z' ρ (below_grown hb) hz hz2 hv.v rfl
  · obtain ⟨ps', h1, h2, rfl⟩ := aRs_get h.ws hl hrel hps
    refine (hc.run (ZOwn Z ρ st.ob) w us (ZOwn.lt h.ws) ?_ h1 h2).mono ?_
    · obtain ⟨w1, g1, g2, g3⟩ := h.ws.g
      exact ⟨w1, g1, g2, fun b hb => .inl (g3 b hb)⟩
    · rintro e w' ⟨v, Z', rfl, hb, hz, hz2, hv⟩
      exact hK v w' Z ρ (below_grown hb) (fun _ h => h) (fun _ h => .inl h) (hv.any hsc).v rfl

theorem afree_get (he : E.Ok) {K : AV → Option AO → Prop} (h : Sim E.W S Z ρ st a w) (hk : afree E o st K) : ∃ v oo, FreeAt E Z ρ o a w v oo ∧ K v oo := by
  unfold afree at hk
  split at hk
  · rename_i x ho; exact freeAt_reads (reads_move h (.inl ho) hk)
  · rename_i x ho; exact freeAt_reads (reads_move h (.inr ho) hk)
  · rename_i c x y ho; exact freeAt_reads (reads_pick (K := fun v => K v none) h ho hk)
  · rename_i op t x y t2 ho; exact freeAt_or (reads_bin he h ho hk)
  · rename_i op t x ho; exact freeAt_or (reads_un h ho hk)
  · rename_i s d x ho; exact freeAt_or (reads_conv he h ho hk)
  · rename_i t x f ho; exact freeAt_reads (reads_fieldAddr he h ho hk)
  · rename_i t x ho; exact freeAt_reads (reads_load he h ho hk)
  · rename_i t ps ho; exact freeAt_reads (reads_build he h ho hk)
  · rename_i t n ps ho
    obtain ⟨i, hi, hk⟩ := aTI_get he hk
    split at hk
    · rename_i e hs
      obtain ⟨j, hj, hk⟩ := aTI_get he hk
      split at hk
      · exact hk.elim
      · rename_i s hjs
        split at hk
        · rename_i hle
          have hle := Nat.le_of_ble_eq_true hle
          have hjs' : j.size = s + 1 := hjs
          rw [← hjs'] at hk hle
          obtain ⟨xs, us, hn, h2, h3, h4, h5, hz, hnm, hk⟩ := bs_run h ho (hi.sl hs) hj hle (by omega) hk
          refine ⟨_, _, fun Kont Q hK => ?_, hk⟩
          unfold Oper.wp
          rw [hz]
          have hg := grownBy_alloc w (.cells us.flatten.toArray e) none
          have hzs := h.ws.zsame hg (by simp)
          refine hK _ _ (fun b => Z b ∨ b = w.heap.size) ρ hg (fun b hb => .inl hb) (fun b hb => hb.imp id fun e => ⟨by omega, by simp [e]⟩) (relV_d ?_) rfl
          have hd := RelD.sl (Z := fun b => Z b ∨ b = w.heap.size) (w := w.alloc (.cells us.flatten.toArray e)) xs (some ⟨w.heap.size, 0, none⟩) n j.size us (by omega) hnm h2 h3 h4 (.inr ⟨w.heap.size, 0, rfl, .inr rfl, fun i u hu => by
              rw [cell_of_row _ w.heap.size (0 + i) _ _ _ (heap_alloc_new w _), Nat.zero_add]
              simpa using hu⟩) fun i k x u p q e1 e2 e3 e4 => (h5 i k x u p q e1 e2 e3 e4).mono (fun b hb => .inl hb) hzs
          rwa [hn] at hd
        · exact hk.elim
    · exact hk.elim
  · rename_i t x ho
    obtain ⟨vx, hx, hk⟩ := aEv_get h hk
    obtain ⟨cs, hk, _, hrel⟩ := aCells_get hx hk
    refine freeAt_box h hrel ?_ hk
    simp [execOp, ho, Instr.box, newVar, newRow]
  · rename_i t ho
    obtain ⟨i, hi, hk⟩ := aTI_get he hk
    obtain ⟨cs, hk, _, hrel⟩ := aZero_get hk
    refine freeAt_box h (hrel Z w ρ) ?_ hk
    simp [execOp, ho, Instr.alloc, hi.zr, newVar, newRow]
  · rename_i t x lo hi ho; exact freeAt_or (reads_slice he h ho hk)
  · rename_i t x i ho; exact freeAt_reads (reads_indexAddr he h ho hk)
  · rename_i t x i ho; exact freeAt_or (reads_index he h ho hk)
  · rename_i t x f ho; exact freeAt_reads (reads_field he h ho hk)
  · rename_i x i ho; exact freeAt_reads (reads_extract (K := fun v => K v none) h ho hk)
  · rename_i x ho
    obtain ⟨vx, hx, hk⟩ := aEv_get h hk
    split at hk
    · have hx' := hx
      cases hx with
      | one _ _ hx =>
        obtain ⟨b, hb, e⟩ := hx
        exact freeAt_reads ⟨_, _, hx', by simp [execOp, ho, e], hk⟩
    · have hx' := hx
      cases hx with
      | one _ _ hx =>
        obtain ⟨b, off, us, e, _⟩ := hx
        exact freeAt_reads ⟨_, _, hx', by simp [execOp, ho, e], hk⟩
    · exact hk.elim
  · rename_i c ho
    split at hk
    · rename_i hb
      obtain ⟨vs, hl, hv, hk1⟩ := aEvL_get h hk
      clear hk
      split at hk1
      · rename_i t ts x hts
        have hlen : c.args.toList.length = 1 := by simpa using hl.symm
        obtain ⟨y, hy⟩ := List.length_eq_one_iff.1 hlen
        have h0 := hv 0 y x (by rw [hy]; rfl) rfl
        have ht : c.argTypes[0]? = some t := by rw [← Array.getElem?_toList, hts]; rfl
        refine freeAt_or (reads_len he h (ts := c.argTypes) h0 ?_ ht hk1)
        simp only [execOp, ho, resolve, hb, Sem.run_bind, Sem.run_pure, Result.andThen_ok, invoke, args_list c.args a.eval, hy]
        simp [builtin]
      · exact hk1.elim
    · rename_i fo hf
      obtain ⟨vf, hvf, hk1⟩ := aEv_get h hk
      clear hk
      split at hk1
      · rename_i f first caps
        have ef := relV_pv hvf
        split at hk1
        · rename_i h1 h2
          obtain ⟨vs, hl, hv, hk2⟩ := aEvL_get h hk1
          have e1 : first = #[] := by simpa using h1
          have e2 : caps = #[] := by simpa using h2
          subst e1 e2
          refine freeAt_call h (us := c.args.toList.map a.eval) (by simp [hl]) (fun i x u h3 h4 => ?_) ?_ hk2
          · rw [List.getElem?_map] at h4
            obtain ⟨y, hy, rfl⟩ := Option.map_eq_some_iff.1 h4
            exact hv i y x hy h3
          · simp only [execOp, ho, resolve, hf, ef, Deferred.ofValue, invoke, Sem.run_bind, Sem.run_pure, Result.andThen_ok, args_list c.args a.eval]
            simp
        · exact hk1.elim
      · exact hk1.elim
    · exact hk.elim
  · exact hk.elim
end

theorem freeOut_of {E : AEnv} (he : E.Ok) {S : Base} {o : Oper} {P : ASt} {v : AV} {oo : Option AO} (h : afree E o P fun v' oo' => v' = v ∧ oo' = oo) : FreeOut E S o P v oo := by
  intro Z ρ a w hs Kont Q hK
  obtain ⟨v', oo', hf, rfl, rfl⟩ := afree_get he hs h
  exact hf Kont Q hK
end Go.Proofs.YtlhanpkfnhnegaaDoor
