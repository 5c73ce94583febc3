/- Running over abstract values is sound: slices made and grown, calls; all operations. -/
import Derived.Test.YtlhanpkfnhnegaaDoorAvG2
set_option linter.unusedVariables false
set_option linter.unusedSimpArgs false
set_option maxRecDepth 100000
namespace Go.Proofs.YtlhanpkfnhnegaaDoor
open Go.RowKit

section
variable {E : AEnv} {S : Base} {Z : Nat → Prop} {ρ : Nat → Value} {st : ASt} {a : Act} {w : World} {K : ASt → Prop} {o : Oper}

theorem aCells_ex {x : AV} {K : List AC → Prop} (hk : aCells x K) : ∃ cs, K cs := by
  unfold aCells at hk
  split at hk
  · split at hk
    · exact ⟨_, hk⟩
    · exact hk.elim
  · split at hk
    · exact ⟨_, hk⟩
    · exact hk.elim
  · exact hk.elim
theorem aElems_ex (h : Sim E.W S Z ρ st a w) {s n : Nat} : ∀ (parts : List (Nat × Operand)) (q : Nat) (K : List (List AD) → Prop), aElems st s parts q n K → q ≤ n ∧ ∃ xs, K xs
  | [], q, K, hk => by
    simp only [aElems] at hk
    split at hk
    · rename_i e; exact ⟨Nat.le_of_eq (Nat.eq_of_beq_eq_true e), _, hk⟩
    · exact hk.elim
  | (i, x) :: r, q, K, hk => by
    simp only [aElems] at hk
    split at hk
    · obtain ⟨v', _, hk⟩ := aEv_get h hk
      obtain ⟨cs, hk⟩ := aCells_ex hk
      split at hk
      · obtain ⟨ds, hk, _⟩ := aToD_get hk
        obtain ⟨h1, xs, hk⟩ := aElems_ex h r _ _ hk
        exact ⟨by omega, _, hk⟩
      · exact hk.elim
    · exact hk.elim

/-- Elements laid one behind the other into a row of their number. -/
theorem aElems_get (h : Sim E.W S Z ρ st a w) {s : Nat} : ∀ (parts : List (Nat × Operand)) (at_ n : Nat) (done rest : List Value) (K : List (List AD) → Prop), done.length = at_ * s → done.length + rest.length = n * s → 0 < s → aElems st s parts at_ n K →
    ∃ (xs : List (List AD)) (us : List (List Value)), at_ + xs.length = n ∧ us.length = xs.length ∧ (∀ x ∈ xs, x.length = s) ∧ (∀ u ∈ us, u.length = s) ∧ (∀ (i k : Nat) x u p q, xs[i]? = some x → us[i]? = some u → x[k]? = some p → u[k]? = some q → RelD Z w p q) ∧
      Instr.fill (fun i => some (i * s, s)) (done ++ rest).toArray (parts.map fun p => (p.1, a.eval p.2)) = some (done ++ us.flatten).toArray ∧ K xs
  | [], at_, n, done, rest, K, hd, hr, hs, hk => by
    simp only [aElems] at hk
    split at hk
    · rename_i e
      have e := Nat.eq_of_beq_eq_true e
      subst e
      have : rest = [] := List.eq_nil_of_length_eq_zero (by omega)
      subst this
      exact ⟨[], [], rfl, rfl, by simp, by simp, by simp, by simp [Instr.fill], hk⟩
    · exact hk.elim
  | (i, x) :: r, at_, n, done, rest, K, hd, hr, hs, hk => by
    simp only [aElems] at hk
    split at hk
    · rename_i e
      have e := Nat.eq_of_beq_eq_true e
      subst e
      obtain ⟨v, hv, hk⟩ := aEv_get h hk
      obtain ⟨vs, hk, hsol, hvs⟩ := aCells_get hv hk
      split at hk
      · rename_i hlen
        have hlen := aLenIs_eq hlen
        obtain ⟨ds, hk, hdl, hdr⟩ := aToD_get hk
        have hvl : (a.eval x).cells.toList.length = s := by rw [hvs.1, hlen]
        -- room: the rest of the parts takes what is left
        have hroom : s ≤ rest.length := by
          have h1 := (aElems_ex h r (i + 1) _ hk).1
          have h2 : (i + 1) * s ≤ n * s := Nat.mul_le_mul_right s h1
          rw [Nat.add_mul] at h2
          omega
        obtain ⟨us', hul, huj, hf⟩ := fill_cons (place := fun i => some (i * s, s)) (rest := r.map fun p => (p.1, a.eval p.2)) (i := i) (v := a.eval x) (off := i * s) (us := done ++ rest) (by rw [hvl]) (by rw [hvl, List.length_append]; omega)
        have e2 : us' = (done ++ (a.eval x).cells.toList) ++ rest.drop s := by
          apply List.ext_getElem?
          intro k
          rw [huj k, hvl]
          by_cases h1 : k < done.length
          · rw [if_neg (by omega), List.append_assoc, List.getElem?_append_left h1, List.getElem?_append_left h1]
          · by_cases h2 : k < done.length + s
            · rw [if_pos (by omega), List.getElem?_append_left (by rw [List.length_append, hvl]; omega), List.getElem?_append_right (by omega), hd]
            · rw [if_neg (by omega), List.getElem?_append_right (by omega), List.getElem?_append_right (by rw [List.length_append, hvl]; omega), List.getElem?_drop, List.length_append, hvl]
              congr 1
              omega
        obtain ⟨xs, us, h1, h2, h3, h4, h5, h6, hk⟩ := aElems_get h r (i + 1) n (done ++ (a.eval x).cells.toList) (rest.drop s) _ (by rw [List.length_append, hvl, hd, Nat.add_mul]; omega) (by rw [List.length_append, hvl, List.length_drop]; omega) hs hk
        refine ⟨ds :: xs, (a.eval x).cells.toList :: us, by simp; omega, by simp [h2], fun y hy => ?_, fun y hy => ?_, fun p k y u q1 q2 e3 e4 e5 e6 => ?_, ?_, hk⟩
        · rcases List.mem_cons.1 hy with rfl | hy
          · omega
          · exact h3 y hy
        · rcases List.mem_cons.1 hy with rfl | hy
          · exact hvl
          · exact h4 y hy
        · cases p with
          | zero =>
            simp at e3 e4
            subst e3 e4
            have hk2 : k < vs.length := by have := (List.getElem?_eq_some_iff.1 e5).1; omega
            exact hdr k q1 vs[k] q2 e5 (List.getElem?_eq_getElem hk2) (hvs.2 k _ q2 (List.getElem?_eq_getElem hk2) (by simpa using e6))
          | succ p => exact h5 p k y u q1 q2 (by simpa using e3) (by simpa using e4) e5 e6
        · rw [List.map_cons, hf, e2, h6]
          simp
      · exact hk.elim
    · exact hk.elim

theorem bs_run (h : Sim E.W S Z ρ st a w) {t e : TypeId} {n : Nat} {ps : Array (Nat × Operand)} (ho : o.op = .buildSlice t n ps) {j : TI} (hu : E.P.underlying t = some (.slice e)) (hj : TyFact E.P e j) (hle : n * j.size ≤ 16777216) (hs0 : 0 < j.size)
    {K : List (List AD) → Prop} (hk : aElems st j.size ps.toList 0 n K) : ∃ (xs : List (List AD)) (us : List (List Value)), xs.length = n ∧ us.length = xs.length ∧ (∀ x ∈ xs, x.length = j.size) ∧ (∀ u ∈ us, u.length = j.size) ∧
      (∀ (i k : Nat) x u p q, xs[i]? = some x → us[i]? = some u → x[k]? = some p → u[k]? = some q → RelD Z w p q) ∧
      (execOp a.eval o).run E.P w = .ok (.value (.slice (some ⟨w.heap.size, 0, none⟩) n n)) (w.alloc (.cells us.flatten.toArray e)) ∧ n ≤ maxLen ∧ K xs := by
  have hps : (ps.map fun (i, x) => (i, a.eval x)).toList = ps.toList.map fun p => (p.1, a.eval p.2) := by simp
  obtain ⟨zs, hzl, hz⟩ : ∃ zs : Array Value, zs.size = n * j.size ∧ ∀ cells, Instr.fill (fun i => some (i * j.size, j.size)) zs (ps.toList.map fun p => (p.1, a.eval p.2)) = some cells →
      (execOp a.eval o).run E.P w = .ok (.value (.slice (some ⟨w.heap.size, 0, none⟩) n n)) (w.alloc (.cells cells e)) := by
    have hnl : ¬ (n * j.size > 2 ^ 24) := by omega
    by_cases h0 : n * j.size = 0
    · refine ⟨#[], by simp [h0], fun cells hc => ?_⟩
      simp only [execOp, ho, Instr.buildSlice, Sem.run_bind, run_underlying hu, Result.andThen_ok, hj.sz, Sem.run_ite, if_neg hnl, if_pos h0, Sem.run_pure, hps]
      simp only [h0, Array.range_zero', Array.map_empty, hc]
      simp [newRow]
    · refine ⟨(Array.range (n * j.size)).map (j.zero.cells[· % j.zero.cells.size]!), by simp, fun cells hc => ?_⟩
      simp only [execOp, ho, Instr.buildSlice, Sem.run_bind, run_underlying hu, Result.andThen_ok, hj.sz, Sem.run_ite, if_neg hnl, if_neg h0, Sem.run_pure, hps, hj.zr, hc]
      simp [newRow]
  obtain ⟨xs, us, h1, h2, h3, h4, h5, h6, hk⟩ := aElems_get h ps.toList 0 n [] zs.toList _ (by simp) (by simpa using hzl) hs0 hk
  simp only [List.nil_append, Array.toArray_toList] at h6
  have hnm : n ≤ maxLen := by
    have : n * 1 ≤ n * j.size := Nat.mul_le_mul_left n hs0
    unfold maxLen
    omega
  exact ⟨xs, us, by omega, h2, h3, h4, h5, hz _ h6, hnm, hk⟩

theorem good_buildSlice (he : E.Ok) (h : Sim E.W S Z ρ st a w) {t : TypeId} {n : Nat} {ps : Array (Nat × Operand)} (ho : o.op = .buildSlice t n ps)
    (hk : aBuildSlice E st o.dst t n ps.toList K) : Good E S o a w K := by
  obtain ⟨i, hi, hk⟩ := aTI_get he hk
  split at hk
  · rename_i e hs
    have hu := hi.sl hs
    obtain ⟨j, hj, hk⟩ := aTI_get he hk
    split at hk
    · rename_i hle
      have hle := Nat.le_of_ble_eq_true hle
      -- the size is no nought: the new row says so
      have hs0 : 0 < j.size := by
        rcases Nat.eq_zero_or_pos j.size with h0 | h0
        · exfalso
          obtain ⟨_, xs, hk⟩ := aElems_ex h _ _ _ hk
          obtain ⟨j', hj', hk⟩ := aTI_get he hk
          obtain ⟨x, hx, _, hxs, _⟩ := hj.info'
          obtain ⟨y, hy, _, hys, _⟩ := hj'.info'
          rw [hx] at hy
          injection hy with hy
          subst hy
          split at hk
          · exact hk.elim
          · rename_i s hs'; omega
        · exact h0
      obtain ⟨xs, us, hn, h2, h3, h4, h5, hz, hnm, hk⟩ := bs_run h ho hu hj hle hs0 hk
      have hfl : us.flatten.length = n * j.size := by rw [flat_len h4, h2, hn]
      refine good_newRow he h hj h2 h3 h4 h5 (v := .slice (some ⟨w.heap.size, 0, none⟩) n n) (w' := w.alloc (.cells us.flatten.toArray e)) ?_ (grownBy_alloc w _ none) (fun b hb => by simp [blkOf] at hb; omega) hz hk
      rw [hn]
      exact ⟨hfl, .inr ⟨w.heap.size, n, us.flatten.toArray, rfl, Nat.zero_le _, heap_alloc_new w _, Nat.le_refl _, hnm, by simpa using hfl, by rw [← hfl]; exact List.take_length⟩⟩
    · exact hk.elim
  · exact hk.elim

theorem rep_flat {l : List Value} {n s : Nat} (hl : l.length = s) (hs : 0 < s) (i : Nat) (hi : i < n * s) : (List.replicate n l).flatten[i]? = l[i % s]? := by
  have hk : i / s < n := Nat.div_lt_of_lt_mul (by rwa [Nat.mul_comm] at hi)
  have hm : i % s < s := Nat.mod_lt _ hs
  have h1 : (List.replicate n l)[i / s]? = some l := by simp [hk]
  have h2 : l[i % s]? = some l[i % s] := List.getElem?_eq_getElem (by omega)
  rw [h2]
  have := flat_get (us := List.replicate n l) (s := s) (fun u hu => by rw [List.eq_of_mem_replicate hu, hl]) h1 h2
  rwa [show i / s * s + i % s = i by rw [Nat.mul_comm]; exact Nat.div_add_mod i s] at this

theorem good_make (he : E.Ok) (h : Sim E.W S Z ρ st a w) {t : TypeId} {l c : Operand} (ho : o.op = .makeSlice t l c)
    (hk : aEv st l fun l => aEv st c fun c => aMake E st o.dst t l c K) : Good E S o a w K := by
  obtain ⟨vl, hvl, hk1⟩ := aEv_get h hk
  obtain ⟨vc, hvc, hk2⟩ := aEv_get h hk1
  clear hk hk1
  unfold aMake at hk2
  split at hk2
  · rename_i kl n kc m
    have hk := hk2
    clear hk2
    have el := relV_pv hvl
    have ec := relV_pv hvc
    obtain ⟨i, hi, hk⟩ := aTI_get he hk
    split at hk
    · rename_i e hs
      have hu := hi.sl hs
      obtain ⟨j, hj, hk⟩ := aTI_get he hk
      obtain ⟨z, hk, hsol, hz⟩ := aZero_get hk
      obtain ⟨ds, hk, hdl, hdr⟩ := aToD_get hk
      obtain ⟨k, hn, hm, hb, hle, hk9⟩ := hk
      subst hn hm
      have hk0 := hk9
      obtain ⟨j', hj', hk1⟩ := aTI_get he hk0
      obtain ⟨x, hx, hxz, hxs, hxb⟩ := hj.info'
      have hs0 : 0 < j.size := by
        obtain ⟨y, hy, _, hys, _⟩ := hj'.info'
        rw [hx] at hy
        injection hy with hy
        subst hy
        split at hk1
        · exact hk1.elim
        · rename_i s hs'; omega
      have hr := run_make (P := E.P) w t e x j.zero hu hx hxz kl kc k k (by omega) (by omega) (by
        have h1 : ((x.bytes * k : Nat) : Int) ≤ 281474976710656 := by rw [hxb]; omega
        rwa [Int.natCast_mul] at h1) (by omega)
      simp only [Int.toNat_natCast] at hr
      have hzl : j.zero.cells.toList.length = j.size := by simpa using hj.zs
      have hmade : (madeCells j.zero.cells (k * x.size)).toList = (List.replicate k j.zero.cells.toList).flatten := by
        apply List.ext_getElem?
        intro q
        by_cases hq : q < k * j.size
        · rw [rep_flat hzl hs0 q hq]
          have hm : q % j.size < j.size := Nat.mod_lt _ hs0
          simp [madeCells, hxs, hq, hj.zs, hm]
        · rw [List.getElem?_eq_none (by simp [madeCells, hxs]; omega), List.getElem?_eq_none (by rw [flat_len (s := j.size) fun u hu => by rw [List.eq_of_mem_replicate hu, hzl]]; simp; omega)]
      have hown : (w.alloc (.cells (madeCells j.zero.cells (k * x.size)) e)).ownsRow 0 e j.size (.slice (some ⟨w.heap.size, 0, none⟩) k k) k (List.replicate k j.zero.cells.toList).flatten := by
        have hfl : (List.replicate k j.zero.cells.toList).flatten.length = k * j.size := by rw [flat_len (s := j.size) fun u hu => by rw [List.eq_of_mem_replicate hu, hzl]]; simp
        refine ⟨hfl, .inr ⟨w.heap.size, k, _, rfl, Nat.zero_le _, heap_alloc_new w _, Nat.le_refl _, by unfold maxLen; omega, by rw [size_madeCells, hxs], ?_⟩⟩
        rw [hmade, ← hfl, List.take_length]
      have hdl2 : ds.length = j.size := by rw [hdl, ← (hz Z w ρ).1, hzl]
      refine good_newRow he h hj (xs := List.replicate k ds) (us := List.replicate k j.zero.cells.toList) (v := .slice (some ⟨w.heap.size, 0, none⟩) k k) (by simp) (fun y hy => by rw [List.eq_of_mem_replicate hy, hdl2]) (fun y hy => by rw [List.eq_of_mem_replicate hy, hzl]) (fun i q y u p r h1 h2 h3 h4 => ?_) (by simpa using hown) (grownBy_alloc w _ none) (fun b hb => by simp [blkOf] at hb; omega) ?_ hk9
      · have e1 := List.eq_of_mem_replicate (List.mem_of_getElem? h1)
        have e2 := List.eq_of_mem_replicate (List.mem_of_getElem? h2)
        subst e1 e2
        have hq : q < z.length := by have := (List.getElem?_eq_some_iff.1 h3).1; omega
        exact hdr q p z[q] r h3 (List.getElem?_eq_getElem hq) ((hz Z w ρ).2 q _ r (List.getElem?_eq_getElem hq) h4)
      · simp [execOp, ho, el, ec, hr]
    · exact hk.elim
  · exact hk2.elim

theorem aRowS_of (h : Sim E.W S Z ρ st a w) {s : Nat} {x : AV} {v : Value} (hx : RelV Z w ρ x v) {K : List (List AD) → Prop} (hk : aRowS st s x K) : aRowOf st x fun xs => (∀ y ∈ xs, y.length = s) ∧ K xs := by
  unfold aRowS at hk
  unfold aRowOf
  split at hk
  · exact ⟨by simp, hk⟩
  · exact hk
  · obtain ⟨o, ho, hk⟩ := aOb_get hk
    have hob := h.ws.obj _ o ho
    refine aOb_mk ho ?_
    split at hk
    · split at hk
      · rename_i e
        have e := Nat.eq_of_beq_eq_true e
        subst e
        obtain ⟨us, _, _, hxs, _⟩ := hob
        exact ⟨hxs, hk⟩
      · exact hk.elim
    · exact hk.elim
  · exact hk.elim
theorem own_blkOf {e : TypeId} {s n : Nat} {v : Value} {xs : List Value} (h : w.ownsRow 0 e s v n xs) : blkOf v = v.ownBlock := by
  rcases h.2 with ⟨rfl, _⟩ | ⟨g, cap, cur, rfl, _⟩ <;> rfl

theorem good_append (he : E.Ok) (h : Sim E.W S Z ρ st a w) {t t2 : TypeId} {x y : AV} {vx vy : Value} (hx : RelV Z w ρ x vx) (hy : RelV Z w ρ y vy)
    (hr : (execOp a.eval o).run E.P w = ((Builtin.append_ #[t, t2] o.type #[vx, vy]).run E.P w).andThen fun v w => .ok (.value v) w)
    (hk : aAppend E st o.dst t t2 x y K) : Good E S o a w K := by
  unfold aAppend at hk
  split at hk
  · exact hk.elim
  · rename_i htt
    have htt := Nat.eq_of_beq_eq_true htt
    subst htt
    obtain ⟨i, hi, hk⟩ := aTI_get he hk
    split at hk
    · rename_i e hs
      have hu := hi.sl hs
      obtain ⟨j, hj, hk⟩ := aTI_get he hk
      split at hk
      · rename_i s b hjs hjb
        obtain ⟨q, hq, hqz, hqs, hqb⟩ := hj.info'
        obtain ⟨ys, A, c, rfl, hc, ⟨hys', hk⟩, s', us, hul, hys, hus, hrow, hd⟩ := aRowOf_get h hy (aRowS_of h hy hk)
        have hus' : ∀ u ∈ us, u.length = s + 1 := by
          intro u hu
          obtain ⟨k, hk1, hk2⟩ := List.mem_iff_getElem.1 hu
          have hky : k < ys.length := by omega
          have h1 := hys ys[k] (List.getElem_mem hky)
          have h2 := hys' ys[k] (List.getElem_mem hky)
          have h3 := hus u hu
          omega
        have core : ∀ {v : Value} {n : Nat} {xs0 : List Value}, w.ownsRow 0 e (s + 1) v n xs0 → (n + ys.length) * (b + 1) ≤ 140737488355328 →
            ∃ v' w', (Builtin.append_ #[t, t] o.type #[v, .slice A ys.length c]).run E.P w = .ok v' w' ∧ w'.ownsRow 0 e (s + 1) v' (n + ys.length) (xs0 ++ us.flatten) ∧ w.grownBy w' v.ownBlock ∧ (v'.ownBlock = v.ownBlock ∨ v'.ownBlock = some w.heap.size) := by
          intro v n xs0 hown hb
          have hbb : n + ys.length ≤ 140737488355328 := by
            have : (n + ys.length) * 1 ≤ (n + ys.length) * (b + 1) := Nat.mul_le_mul_left _ (by omega)
            omega
          refine run_append_row (P := E.P) w 0 t o.type e q j.zero (s + 1) (b + 1) hu hq hqz (by omega) (by omega) (by rw [hj.zs, hjs]) (by omega) v n xs0 hown A ys.length c us.flatten (by rw [flat_len hus', hul]) ?_ ?_ (by unfold maxLen; omega) hb (Nat.zero_le _)
          · intro p hp
            rcases hrow with h0 | ⟨g, off, hA, hcell⟩
            · rw [h0] at hp; cases hp
            · refine ⟨g, off, hA, ?_, hcell⟩
              have := hcell p _ (List.getElem?_eq_getElem hp)
              exact World.block_lt_of_cell? w ⟨g, off + p, none⟩ this
          · intro u hu
            obtain ⟨l, hl, hu⟩ := List.mem_flatten.1 hu
            obtain ⟨k, hk1, hk2⟩ := List.mem_iff_getElem.1 hl
            obtain ⟨m, hm1, hm2⟩ := List.mem_iff_getElem.1 hu
            have hky : k < ys.length := by omega
            have hmy : m < ys[k].length := by have := hys' ys[k] (List.getElem_mem hky); have := hus' l hl; omega
            exact (hd k m ys[k] l ys[k][m] u (List.getElem?_eq_getElem hky) (by rw [← hk2]; exact List.getElem?_eq_getElem hk1) (List.getElem?_eq_getElem hmy) (by rw [← hm2]; exact List.getElem?_eq_getElem hm1)).one
        cases x with
        | one cx =>
          cases cx with
          | nil =>
            cases hx with
            | one _ _ hx =>
              have hx : vx = .slice none 0 0 := hx
              subst hx
              have hk' : (ys.length * (b + 1) ≤ 140737488355328) ∧ aRowNew E st o.dst e ys K := hk
              obtain ⟨hb, hk'⟩ := hk'
              obtain ⟨v', w', hrun, hown', hg, hob⟩ := core (World.ownsRow_nil w 0 e (s + 1)) (by rw [Nat.zero_add]; exact hb)
              rw [Nat.zero_add, List.nil_append] at hown'
              refine good_newRow he h hj hul (fun y hy => (hys' y hy).trans hjs.symm) (fun u hu => (hus' u hu).trans hjs.symm) hd (by rw [hjs]; exact hown') (by simpa [Value.ownBlock] using hg) (fun b hb => ?_) (by rw [hr, hrun]; rfl) hk'
              rw [own_blkOf hown'] at hb
              rcases hob with h0 | h0
              · rw [h0] at hb; simp [Value.ownBlock] at hb
              · rw [h0] at hb; injection hb with hb; omega
          | own id =>
            cases hx with
            | one _ _ hx =>
              have hx : vx = ρ id := hx.1
              subst hx
              obtain ⟨ob, hobj, hk1⟩ := aOb_get (l := st.ob) (i := id) hk
              cases ob with
              | cells t cs => exact hk1.elim
              | row e' s2 xs =>
                simp only at hk1
                split at hk1
                · rename_i he' hs2
                  have he' := Nat.eq_of_beq_eq_true he'
                  have hs2 := Nat.eq_of_beq_eq_true hs2
                  subst he' hs2
                  obtain ⟨hb, hk2⟩ := hk1
                  obtain ⟨ux, h0, hxl, hxx, hxu, hown, hxd⟩ := h.ws.obj id _ hobj
                  obtain ⟨v', w', hrun, hown', hg, hob⟩ := core hown hb
                  have hk3 := aNew_get hk2
                  have hrow : ∀ g, (ρ id).ownBlock = some g → (∃ o, oget st.ob id = some o) ∧ blkOf (ρ id) = some g := fun g hg => ⟨⟨_, hobj⟩, by rw [own_blkOf hown]; exact hg⟩
                  have hz := h.ws.zsame hg (fun g e => by obtain ⟨_, hb⟩ := hrow g e; exact (h.ws.mine id _ g hobj hb).1)
                  have h1 : v'.oneCell' = true := by rcases hown'.2 with ⟨rfl, _⟩ | ⟨g, cap, cur, rfl, _⟩ <;> rfl
                  have hs' := h.renew id v' (.row e (s + 1) (xs ++ ys)) hg hrow (fun b hb => by
                    rw [own_blkOf hown'] at hb
                    rcases hob with h2 | h2
                    · rw [h2] at hb; exact .inl ⟨⟨_, hobj⟩, by rw [own_blkOf hown]; exact hb⟩
                    · rw [h2] at hb; injection hb with hb; exact .inr (by omega))
                    ⟨ux ++ us, by omega, by simp [hxl, hul], fun y hy => by
                      rcases List.mem_append.1 hy with hy | hy
                      · exact hxx y hy
                      · exact hys' y hy, fun u hu => by
                      rcases List.mem_append.1 hu with hu | hu
                      · exact hxu u hu
                      · exact hus' u hu, by simpa using hown', fun i k y u p q h2 h3 h4 h5 => by
                      by_cases hi : i < xs.length
                      · rw [List.getElem?_append_left hi] at h2
                        rw [List.getElem?_append_left (by omega)] at h3
                        exact (hxd i k y u p q h2 h3 h4 h5).mono (fun _ h => h) hz
                      · rw [List.getElem?_append_right (by omega)] at h2
                        rw [List.getElem?_append_right (by omega), hxl] at h3
                        exact (hd (i - xs.length) k y u p q h2 h3 h4 h5).mono (fun _ h => h) hz⟩
                  exact good_step hs' (relV_own (id := id) (by simp) h1) (by rw [hr, hrun]; rfl) hk3
                · exact hk1.elim
          | _ => exact hk.elim
        | _ => exact hk.elim
      · exact hk.elim
    · exact hk.elim

theorem good_call (h : Sim E.W S Z ρ st a w) {f : FuncId} {args : List AV} {us : List Value} (hl : us.length = args.length) (hrel : ∀ (i : Nat) x u, args[i]? = some x → us[i]? = some u → RelV Z w ρ x u)
    (hr : (execOp a.eval o).run E.P w = (callFunc f us.toArray).run E.P w) (hk : ACall E S f args st fun r st => aDst st o.dst r K) : Good E S o a w K := by
  intro Q
  unfold Oper.wp
  rw [hr, hk.enter]
  refine (hk.run Z ρ a w us h hl hrel).mono ?_
  rintro e w' ⟨v, r, st', Z', ρ', rfl, hs, hv, hk⟩
  exact ⟨_, ⟨Z', ρ', hs.put o.dst hv⟩, aDst_put hk⟩

theorem args_list (xs : Array Operand) (f : Operand → Value) : xs.map f = (xs.toList.map f).toArray := by apply Array.ext'; simp
theorem good_builtin (he : E.Ok) (h : Sim E.W S Z ρ st a w) {c : Call} {b : Builtin} (ho : o.op = .call c) (hb : c.callee = .builtin b)
    (hk : aEvL st c.args.toList fun args => aBuiltin E b c.argTypes.toList args st o.dst (AOp E S o st K) K) : Good E S o a w K := by
  obtain ⟨vs, hl, hv, hk1⟩ := aEvL_get h hk
  clear hk
  have hex : ∃ cs, (execOp a.eval o).run E.P w = (builtin b c.argTypes o.type cs (c.args.toList.map a.eval).toArray).run E.P w := by
    refine ⟨c.args.map fun | .const _ => true | _ => false, ?_⟩
    simp only [execOp, ho, resolve, hb, Sem.run_bind, Sem.run_pure, Result.andThen_ok, invoke, args_list c.args a.eval]
    rfl
  obtain ⟨cs, hex⟩ := hex
  generalize c.args.toList = xs at *
  have two : ∀ {x y : AV}, vs = [x, y] → ∃ p q, xs = [p, q] ∧ RelV Z w ρ x (a.eval p) ∧ RelV Z w ρ y (a.eval q) := by
    intro x y e
    subst e
    match xs, hl with
    | [p, q], _ => exact ⟨p, q, rfl, hv 0 p x rfl rfl, hv 1 q y rfl rfl⟩
  have int2 : ∀ {x y : AV} {F : Prop} {K : IntKind → Int → Int → Prop}, aInt2 x y F K → (∃ k i k' j, x = vI k i ∧ y = vI k' j ∧ K k i j) ∨ F := by
    intro x y F K hk
    unfold aInt2 at hk
    split at hk
    · split at hk
      · exact .inl ⟨_, _, _, _, rfl, rfl, hk⟩
      · exact .inr hk
    · exact .inr hk
  cases b <;> try exact fun Q => hk1.run a w Q ⟨Z, ρ, h⟩
  case append =>
    unfold aBuiltin aAppB at hk1
    simp only at hk1
    split at hk1
    · rename_i t t2 hts
      split at hk1
      · obtain ⟨p, q, rfl, h0, h1⟩ := two rfl
        have ht : c.argTypes = #[t, t2] := by rw [← Array.toArray_toList (xs := c.argTypes), hts]
        refine good_append he h h0 h1 ?_ hk1
        rw [hex, ht]
        simp [builtin]
      · exact fun Q => hk1.run a w Q ⟨Z, ρ, h⟩
    · exact fun Q => hk1.run a w Q ⟨Z, ρ, h⟩
  case len =>
    unfold aBuiltin aLenB at hk1
    simp only at hk1
    split at hk1
    · rename_i t ts hts
      split at hk1
      · rename_i x
        match xs, hl with
        | [y], _ =>
          have h0 := hv 0 y x rfl rfl
          have ht : c.argTypes[0]? = some t := by rw [← Array.getElem?_toList, hts]; rfl
          refine good_or h (reads_len he h (ts := c.argTypes) h0 ?_ ht hk1)
          rw [hex]
          simp [builtin]
      · exact fun Q => hk1.run a w Q ⟨Z, ρ, h⟩
    · exact fun Q => hk1.run a w Q ⟨Z, ρ, h⟩
  case max =>
    unfold aBuiltin at hk1
    simp only at hk1
    split at hk1
    · rcases int2 hk1 with ⟨k, i, k', j, rfl, rfl, hk2⟩ | hk2
      · obtain ⟨p, q, rfl, h0, h1⟩ := two rfl
        refine good_value h (relV_of_pv rfl) ?_ hk2
        rw [hex]
        simp [builtin, relV_pv h0, relV_pv h1, run_max_int2]
      · exact fun Q => hk2.run a w Q ⟨Z, ρ, h⟩
    · exact fun Q => hk1.run a w Q ⟨Z, ρ, h⟩
  case min =>
    unfold aBuiltin at hk1
    simp only at hk1
    split at hk1
    · rcases int2 hk1 with ⟨k, i, k', j, rfl, rfl, hk2⟩ | hk2
      · obtain ⟨p, q, rfl, h0, h1⟩ := two rfl
        refine good_value h (relV_of_pv rfl) ?_ hk2
        rw [hex]
        simp [builtin, relV_pv h0, relV_pv h1, run_min_int2]
      · exact fun Q => hk2.run a w Q ⟨Z, ρ, h⟩
    · exact fun Q => hk1.run a w Q ⟨Z, ρ, h⟩

theorem aop_sound (he : E.Ok) (h : Sim E.W S Z ρ st a w) (hk : aop E S o st K) : Good E S o a w K := by
  unfold aop at hk
  split at hk
  · rename_i x ho; exact good_of h (reads_move h (.inl ho) hk)
  · rename_i x ho; exact good_of h (reads_move h (.inr ho) hk)
  · rename_i c x y ho; exact good_of h (reads_pick h ho hk)
  · rename_i op t x y t2 ho; exact good_or h (reads_bin he h ho hk)
  · rename_i op t x ho; exact good_or h (reads_un h ho hk)
  · rename_i s d x ho; exact good_or h (reads_conv he h ho hk)
  · rename_i t x f ho; exact good_of h (reads_fieldAddr he h ho hk)
  · rename_i t x ho; exact good_of h (reads_load he h ho hk)
  · rename_i t x v ho; exact good_store he h ho hk
  · rename_i t x ho; exact good_box h ho hk
  · rename_i t ho; exact good_alloc he h ho hk
  · rename_i t ps ho; exact good_of h (reads_build he h ho hk)
  · rename_i t n ps ho; exact good_buildSlice he h ho hk
  · rename_i t l c ho; exact good_make he h ho hk
  · rename_i t x lo hi ho; exact good_or h (reads_slice he h ho hk)
  · rename_i t x i ho; exact good_of h (reads_indexAddr he h ho hk)
  · rename_i t x i ho; exact good_or h (reads_index he h ho hk)
  · rename_i t x f ho; exact good_of h (reads_field he h ho hk)
  · rename_i x i ho; exact good_of h (reads_extract h ho hk)
  · rename_i x ho; exact good_or h (reads_nil h ho hk)
  · rename_i c ho
    split at hk
    · rename_i b hb; exact good_builtin he h ho hb hk
    · rename_i fo hf
      obtain ⟨vf, hvf, hk⟩ := aEv_get h hk
      split at hk
      · rename_i f first caps
        have ef := relV_pv hvf
        split at hk
        · rename_i h1 h2
          obtain ⟨vs, hl, hv, hk⟩ := aEvL_get h hk
          have e1 : first = #[] := by simpa using h1
          have e2 : caps = #[] := by simpa using h2
          subst e1 e2
          refine good_call h (us := c.args.toList.map a.eval) (by simp [hl]) (fun i x u h3 h4 => ?_) ?_ hk
          · rw [List.getElem?_map] at h4
            obtain ⟨y, hy, rfl⟩ := Option.map_eq_some_iff.1 h4
            exact hv i y x hy h3
          · simp only [execOp, ho, resolve, hf, ef, Deferred.ofValue, invoke, Sem.run_bind, Sem.run_pure, Result.andThen_ok, args_list c.args a.eval]
            simp
        · exact fun Q => hk.run a w Q ⟨Z, ρ, h⟩
      · exact fun Q => hk.run a w Q ⟨Z, ρ, h⟩
    · exact fun Q => hk.run a w Q ⟨Z, ρ, h⟩
  · exact fun Q => hk.run a w Q ⟨Z, ρ, h⟩
end
end Go.Proofs.YtlhanpkfnhnegaaDoor
