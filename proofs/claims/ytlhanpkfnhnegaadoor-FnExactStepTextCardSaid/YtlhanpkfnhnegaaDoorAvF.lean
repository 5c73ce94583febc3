/- Running over abstract values is sound: loads, parts, indices, slices. -/
import Derived.Test.YtlhanpkfnhnegaaDoorAvE
set_option linter.unusedVariables false
set_option linter.unusedSimpArgs false
set_option maxRecDepth 100000
namespace Go.Proofs.YtlhanpkfnhnegaaDoor
open Go.RowKit

section
variable {E : AEnv} {S : Base} {Z : Nat → Prop} {ρ : Nat → Value} {st : ASt} {a : Act} {w : World} {K : ASt → Prop} {o : Oper}

theorem flat_get {us : List (List Value)} {s : Nat} (h : ∀ u ∈ us, u.length = s) {k j : Nat} {u : List Value} {v : Value} (hu : us[k]? = some u) (hv : u[j]? = some v) : us.flatten[k * s + j]? = some v := by
  induction us generalizing k with
  | nil => simp at hu
  | cons x r ih =>
    have hx : x.length = s := h x (by simp)
    cases k with
    | zero =>
      simp at hu
      subst hu
      rw [List.flatten_cons, Nat.zero_mul, Nat.zero_add, List.getElem?_append_left (List.getElem?_eq_some_iff.1 hv).1]
      exact hv
    | succ k =>
      have := ih (fun u hu => h u (by simp [hu])) (by simpa using hu)
      rw [List.flatten_cons, List.getElem?_append_right (by rw [hx, Nat.add_mul]; omega), hx]
      rw [show (k + 1) * s + j - s = k * s + j by rw [Nat.add_mul]; omega]
      exact this
theorem flat_len {us : List (List Value)} {s : Nat} (h : ∀ u ∈ us, u.length = s) : us.flatten.length = us.length * s := by
  induction us with
  | nil => simp
  | cons x r ih =>
    rw [List.flatten_cons, List.length_append, ih fun u hu => h u (by simp [hu]), h x (by simp), List.length_cons, Nat.add_mul]
    omega

/-- The cells of an own row's block. -/
theorem own_cells {e : TypeId} {s n : Nat} {v : Value} {xs : List Value} (h : w.ownsRow 0 e s v n xs) {b : Nat} (hb : blkOf v = some b) : ∃ cap cur, v = .slice (some ⟨b, 0, none⟩) n cap ∧ w.heap[b]? = some (.cells cur e (0, 0)) ∧ n ≤ cap ∧ cap ≤ maxLen ∧ cur.size = cap * s ∧ cur.toList.take (n * s) = xs := by
  rcases h.2 with ⟨rfl, _⟩ | ⟨g, cap, cur, rfl, _, hg, h1, h2, h3, h4⟩
  · simp [blkOf] at hb
  · simp only [blkOf] at hb
    injection hb with hb
    subst hb
    exact ⟨cap, cur, rfl, hg, h1, h2, h3, h4⟩
theorem own_blk {e : TypeId} {s n : Nat} {v : Value} {xs : List Value} (h : w.ownsRow 0 e s v n xs) (hn : 0 < n) : ∃ b, blkOf v = some b := by
  rcases h.2 with ⟨rfl, h0⟩ | ⟨g, cap, cur, rfl, _⟩
  · omega
  · exact ⟨g, rfl⟩
theorem own_cell {e : TypeId} {s n : Nat} {v : Value} {xs : List Value} (h : w.ownsRow 0 e s v n xs) {b : Nat} (hb : blkOf v = some b) {i : Nat} {u : Value} (hu : xs[i]? = some u) : w.cell? ⟨b, i, none⟩ = some u := by
  obtain ⟨cap, cur, _, hg, _, _, _, ht⟩ := own_cells h hb
  rw [cell_of_row w b i cur e (0, 0) hg]
  rw [← ht, List.getElem?_take] at hu
  split at hu
  · simpa using hu
  · cases hu

theorem load_get (he : E.Ok) (h : Sim E.W S Z ρ st a w) {t : TypeId} {vx : AV} {u : Value} (hx : RelV Z w ρ vx u) {K : AV → Prop} (hk : aLoad E st t vx K) :
    ∃ b off v y, u = .pointer (some ⟨b, off, none⟩) ∧ (loadVar t ⟨b, off, none⟩).run E.P w = .ok v w ∧ RelV Z w ρ y v ∧ K y := by
  obtain ⟨i, hi, hk⟩ := aTI_get he hk
  have fin : ∀ {b off : Nat} {v : Value} {y : AV}, u = .pointer (some ⟨b, off, none⟩) → (loadVar t ⟨b, off, none⟩).run E.P w = .ok v w → RelV Z w ρ y v → K y → ∃ b off v y, u = .pointer (some ⟨b, off, none⟩) ∧ (loadVar t ⟨b, off, none⟩).run E.P w = .ok v w ∧ RelV Z w ρ y v ∧ K y :=
    fun e hr hy hk => ⟨_, _, _, _, e, hr, hy, hk⟩
  split at hk
  · rename_i id k s off _
    cases hx with
    | one _ _ hx =>
      obtain ⟨b, hb, e⟩ := hx
      obtain ⟨ob, hob, hk⟩ := aOb_get hk
      have hrel := h.ws.obj id ob hob
      split at hk
      · rename_i u' cs
        split at hk
        · obtain ⟨b', us, hp, hg, hl, hc⟩ := hrel
          rw [hp] at hb
          simp only [blkOf] at hb
          injection hb with hb
          subst hb
          obtain ⟨hle, hk⟩ := aDrop_get hk
          rw [Nat.zero_mul, Nat.zero_add] at e
          obtain ⟨y, v, hr, hy, hk⟩ := run_loadVar_cells (ρ := ρ) hi (b := b') (off := off) (us := us.drop off) (fun j u hu => by
            rw [List.getElem?_drop] at hu
            rw [cell_of_row w b' _ _ _ _ hg]
            simpa using hu) (by simp [hl]) (fun j c u h1 h2 => by
            rw [List.getElem?_drop] at h1 h2
            exact hc _ c u h1 h2) hk
          exact fin e hr hy hk
        · exact hk.elim
      · rename_i e' s' xs
        split at hk
        · rename_i hs
          have hs := Nat.eq_of_beq_eq_true hs
          subst hs
          obtain ⟨us, h0, hl, hxs, hus, hown, hd⟩ := hrel
          obtain ⟨k', ex, hkk, hex, hk⟩ := hk.h
          have hkk : k = k' := by omega
          subst hkk
          obtain ⟨hle, hk⟩ := aDrop_get hk
          have hk := aMapD_get hk
          have hku : k < us.length := by rw [hl]; exact (List.getElem?_eq_some_iff.1 hex).1
          have hu1 : us[k]? = some us[k] := List.getElem?_eq_getElem hku
          have hul := hus us[k] (List.getElem_mem hku)
          have hxl := hxs ex (List.mem_of_getElem? hex)
          obtain ⟨y, v, hr, hy, hk⟩ := run_loadVar_cells (ρ := ρ) hi (b := b) (off := k * s + off) (us := us[k].drop off) (fun j u hu => by
            rw [List.getElem?_drop] at hu
            have := own_cell hown hb (flat_get hus hu1 hu)
            rwa [Nat.add_assoc]) (by simp [hul, hxl]) (fun j c u h1 h2 => by
            rw [List.getElem?_map] at h1
            obtain ⟨d, h3, rfl⟩ := Option.map_eq_some_iff.1 h1
            rw [List.getElem?_drop] at h3 h2
            exact hd k _ ex us[k] d u hex hu1 h3 h2) hk
          exact fin e hr hy hk
        · exact hk.elim
  · rename_i cs _
    cases hx with
    | one _ _ hx =>
      obtain ⟨b, off, us, e, hZ, hl, hc, hd⟩ := hx
      have hk := aMapD_get hk
      obtain ⟨y, v, hr, hy, hk⟩ := run_loadVar_cells (ρ := ρ) hi (b := b) (off := off) (us := us) hc (by simp [hl]) (fun j c u h1 h2 => by
        rw [List.getElem?_map] at h1
        obtain ⟨d, h3, rfl⟩ := Option.map_eq_some_iff.1 h1
        exact hd j d u h3 h2) hk
      exact fin e hr hy hk
  · exact hk.elim

theorem reads_load {K : AV → Prop} (he : E.Ok) (h : Sim E.W S Z ρ st a w) {t : TypeId} {x : Operand} (ho : o.op = .load t x)
    (hk : aEv st x fun x => aLoad E st t x K) : Reads E Z ρ o a w K := by
  obtain ⟨vx, hx, hk⟩ := aEv_get h hk
  obtain ⟨b, off, v, y, e, hr, hy, hk⟩ := load_get he h hx hk
  refine ⟨_, _, hy, ?_, hk⟩
  simp [execOp, ho, e, Instr.loadAt, Instr.sureAddr, hr]

/-- A part of a struct value. -/
theorem aVal_part (he : E.Ok) {t : TypeId} {i : TI} (hi : TyFact E.P t i) {us : List Value} {cs : List AC} (hl : us.length = cs.length) (hr : ∀ (j : Nat) c u, cs[j]? = some c → us[j]? = some u → RelC Z w ρ c u) {off : Nat} (hoff : off ≤ cs.length) {K : AV → Prop} (hk : aVal i (cs.drop off) K) :
    ∃ x v, (part t us.toArray off).run E.P w = .ok v w ∧ RelV Z w ρ x v ∧ K x := by
  unfold aVal at hk
  unfold part
  split at hk
  · rename_i hg
    obtain ⟨hle, hk⟩ := aTake_get hk
    refine ⟨_, .agg ((us.drop off).take i.size).toArray, ?_, .agg _ ((us.drop off).take i.size) (by simp [hl]) fun j c u h1 h2 => ?_, hk⟩
    · simp only [Sem.run_bind, hi.ag, hg, Result.andThen_ok, if_true, hi.sz, Sem.run_pure]
      congr 2
      simp [List.extract]
    · rw [List.getElem?_take] at h1 h2
      split at h1
      · rename_i hlt
        rw [if_pos hlt] at h2
        rw [List.getElem?_drop] at h1 h2
        exact hr _ c u h1 h2
      · cases h1
  · rename_i hg
    split at hk
    · rename_i c r hcs
      have h1 : cs[off]? = some c := by
        have := congrArg (·[0]?) hcs
        simpa using this
      have hlt : off < us.length := by rw [hl]; exact (List.getElem?_eq_some_iff.1 h1).1
      refine ⟨_, us[off], ?_, .one _ _ (hr off c us[off] h1 (List.getElem?_eq_getElem hlt)), hk⟩
      simp [hi.ag, hg, hlt]
    · exact hk.elim

theorem reads_field {K : AV → Prop} (he : E.Ok) (h : Sim E.W S Z ρ st a w) {t : TypeId} {x : Operand} {f : Nat} (ho : o.op = .field t x f)
    (hk : aEv st x fun x => aField E t x f K) : Reads E Z ρ o a w K := by
  obtain ⟨vx, hx, hk⟩ := aEv_get h hk
  unfold aField at hk
  split at hk
  · rename_i cs
    obtain ⟨i, hi, hk⟩ := aTI_get he hk
    split at hk
    · rename_i fs hfs
      obtain ⟨fields, hu, hf⟩ := hi.stf hfs
      obtain ⟨p, hp, hk⟩ := aNth_get hk
      obtain ⟨j, hj, hk⟩ := aTI_get he hk
      obtain ⟨hle, hk⟩ := aDrop_get hk
      rw [← hf, List.getElem?_map] at hp
      obtain ⟨fl, hfl, rfl⟩ := Option.map_eq_some_iff.1 hp
      have hfl' : fields[f]? = some fl := by simpa using hfl
      generalize hev : a.eval x = ve at hx
      cases hx with
      | agg _ us hl hr =>
        obtain ⟨y, v, hrun, hy, hk⟩ := aVal_part (w := w) (ρ := ρ) he hj hl hr hle hk
        refine ⟨_, _, hy, ?_, hk⟩
        simp [execOp, ho, hev, Instr.field, run_underlying hu, hfl', asAgg, hrun]
    · exact hk.elim
  · exact hk.elim

theorem reads_extract {K : AV → Prop} (h : Sim E.W S Z ρ st a w) {x : Operand} {i : Nat} (ho : o.op = .extract x i)
    (hk : aEv st x fun x => match x with
      | .tup vs => aNth vs i K
      | _ => False) : Reads E Z ρ o a w K := by
  obtain ⟨vx, hx, hk⟩ := aEv_get h hk
  split at hk
  · rename_i vs
    obtain ⟨y, hy, hk⟩ := aNth_get hk
    generalize hev : a.eval x = ve at hx
    cases hx with
    | tup _ us hl hr =>
      have hlt : i < us.length := by rw [hl]; exact (List.getElem?_eq_some_iff.1 hy).1
      refine ⟨_, _, (hr i y us[i] hy (List.getElem?_eq_getElem hlt)), ?_, hk⟩
      simp [execOp, ho, hev, Instr.extract, hlt]
  · exact hk.elim

theorem reads_nil {K : AV → Prop} {F : Prop} (h : Sim E.W S Z ρ st a w) {x : Operand} (ho : o.op = .nilCheck x)
    (hk : aEv st x fun x => match x with
      | .one (.ref i k s off) => K (.one (.ref i k s off))
      | .one (.ptr cs) => K (.one (.ptr cs))
      | .one (.d (.pv (.func (.func f) a c))) => K (.one (.d (.pv (.func (.func f) a c))))
      | _ => F) : Reads E Z ρ o a w K ∨ F := by
  obtain ⟨vx, hx, hk⟩ := aEv_get h hk
  split at hk
  · have hx' := hx
    cases hx with
    | one _ _ hx =>
      obtain ⟨b, hb, e⟩ := hx
      refine .inl ⟨_, _, hx', ?_, hk⟩
      simp [execOp, ho, e]
  · have hx' := hx
    cases hx with
    | one _ _ hx =>
      obtain ⟨b, off, us, e, _⟩ := hx
      refine .inl ⟨_, _, hx', ?_, hk⟩
      simp [execOp, ho, e]
  · have e := relV_pv hx
    refine .inl ⟨_, _, hx, ?_, hk⟩
    simp [execOp, ho, e]
  · exact .inr hk

/-- The elements of a slice as they lie. -/
theorem aRowOf_get (h : Sim E.W S Z ρ st a w) {x : AV} {v : Value} (hx : RelV Z w ρ x v) {K : List (List AD) → Prop} (hk : aRowOf st x K) :
    ∃ (xs : List (List AD)) (A : Option Addr) (cap : Nat), v = .slice A xs.length cap ∧ xs.length ≤ cap ∧ K xs ∧ ∃ (s : Nat) (us : List (List Value)), us.length = xs.length ∧ (∀ x ∈ xs, x.length = s) ∧ (∀ u ∈ us, u.length = s) ∧
      (us.flatten = [] ∨ ∃ b off, A = some ⟨b, off, none⟩ ∧ ∀ (i : Nat) u, us.flatten[i]? = some u → w.cell? ⟨b, off + i, none⟩ = some u) ∧
      (∀ (i j : Nat) x u p q, xs[i]? = some x → us[i]? = some u → x[j]? = some p → u[j]? = some q → RelD Z w p q) := by
  unfold aRowOf at hk
  split at hk
  · cases hx with
    | one _ _ hx => exact ⟨[], none, 0, hx, Nat.le_refl _, hk, 0, [], rfl, by simp, by simp, .inl rfl, by simp⟩
  · cases hx with
    | one _ _ hx =>
      cases hx with
      | sl xs A cap s us hc hm hl hxs hus hr hd =>
        refine ⟨_, A, cap, rfl, hc, hk, s, us, hl, hxs, hus, ?_, hd⟩
        rcases hr with h0 | ⟨b, off, hA, _, hcell⟩
        · exact .inl h0
        · exact .inr ⟨b, off, hA, hcell⟩
  · rename_i id
    cases hx with
    | one _ _ hx =>
      obtain ⟨ob, hob, hk⟩ := aOb_get hk
      split at hk
      · rename_i e s xs
        obtain ⟨us, h0, hl, hxs, hus, hown, hd⟩ := h.ws.obj id _ hob
        have hx : v = ρ id := hx.1
        subst hx
        rcases hown.2 with ⟨hv, hn⟩ | ⟨g, cap, cur, hv, _, hg, h1, h2, h3, h4⟩
        · have : xs = [] := List.eq_nil_of_length_eq_zero hn
          subst this
          have : us = [] := List.eq_nil_of_length_eq_zero hl
          subst this
          exact ⟨[], none, 0, hv, Nat.le_refl _, hk, s, [], rfl, by simp, by simp, .inl rfl, by simp⟩
        · refine ⟨xs, some ⟨g, 0, none⟩, cap, hv, h1, hk, s, us, hl, hxs, hus, .inr ⟨g, 0, rfl, fun i u hu => ?_⟩, hd⟩
          rw [Nat.zero_add]
          exact own_cell hown (by rw [hv]; rfl) hu
      · exact hk.elim
  · exact hk.elim

theorem reads_len {K : AV → Prop} {F : Prop} (he : E.Ok) (h : Sim E.W S Z ρ st a w) {t : TypeId} {ts : Array TypeId} {x : AV} {v : Value} (hx : RelV Z w ρ x v)
    (hr : (execOp a.eval o).run E.P w = ((Builtin.len_ ts o.type #[v]).run E.P w).andThen fun v w => .ok (.value v) w) (hts : ts[0]? = some t)
    (hk : aLen E st t x F K) : Reads E Z ρ o a w K ∨ F := by
  unfold aLen at hk
  split at hk
  · have e := relV_pv hx
    subst e
    obtain ⟨i, hi, hk⟩ := aTI_get he hk
    split at hk
    · rename_i hs
      refine .inl ⟨_, _, (relV_of_pv rfl), ?_, hk⟩
      rw [hr]
      simp [Builtin.len_, hts, run_underlying (hi.str hs), goInt]
    · exact .inr hk
  · obtain ⟨i, hi, hk⟩ := aTI_get he hk
    split at hk
    · rename_i e hs
      obtain ⟨xs, A, cap, rfl, _, hk, _⟩ := aRowOf_get h hx hk
      refine .inl ⟨_, _, (relV_of_pv rfl), ?_, hk⟩
      rw [hr]
      simp [Builtin.len_, hts, run_underlying (hi.sl hs), goInt]
    · exact .inr hk

theorem reads_indexAddr {K : AV → Prop} (he : E.Ok) (h : Sim E.W S Z ρ st a w) {t : TypeId} {x ix : Operand} (ho : o.op = .indexAddr t x ix)
    (hk : aEv st x fun x => aEv st ix fun i => aIndexAddr E st t x i K) : Reads E Z ρ o a w K := by
  obtain ⟨vx, hx, hk⟩ := aEv_get h hk
  obtain ⟨vi, hi, hk⟩ := aEv_get h hk
  unfold aIndexAddr at hk
  split at hk
  · rename_i ki n
    have ei := relV_pv hi
    obtain ⟨ti, hti, hk⟩ := aTI_get he hk
    split at hk
    · rename_i e hs
      have hu := hti.sl hs
      obtain ⟨j, hj, hk⟩ := aTI_get he hk
      split at hk
      · exact hk.elim
      · rename_i s hjs
        have run : ∀ (b off k len cap : Nat), n = (k : Int) → k < len → a.eval x = .slice (some ⟨b, off, none⟩) len cap → (execOp a.eval o).run E.P w = .ok (.value (.pointer (some ⟨b, off + k * (s + 1), none⟩))) w := by
          intro b off k len cap hn hkl ev
          subst hn
          have hc : (0 : Int) ≤ (k : Int) ∧ (k : Int) < (len : Int) := ⟨by omega, by omega⟩
          have hadd : (⟨b, off, none⟩ : Addr).add (k * (s + 1)) = ⟨b, off + k * (s + 1), none⟩ := by unfold Addr.add; split <;> simp_all
          have hnk : ¬ len ≤ k := by omega
          simp [execOp, ho, ei, ev, Instr.indexAt, asIntOf, run_underlying hu, hkl, hnk, hj.sz, hjs, hadd]
        split at hk
        · generalize hev : a.eval x = ve at hx
          cases hx with
          | one _ _ hx =>
            cases hx with
            | sl xs A cap s' us hc hm hl hxs hus hr hd =>
              obtain ⟨k, ex, hn, hex, hk⟩ := hk.h
              split at hk
              · rename_i hlen
                have hlen := aLenD_eq hlen
                have hkx := (List.getElem?_eq_some_iff.1 hex).1
                have hku : k < us.length := by rw [hl]; exact hkx
                have hu1 : us[k]? = some us[k] := List.getElem?_eq_getElem hku
                have hul := hus us[k] (List.getElem_mem hku)
                have hxl := hxs ex (List.mem_of_getElem? hex)
                have hss : s' = s + 1 := by omega
                subst hss
                rcases hr with h0 | ⟨b, off, hA, hZ, hcell⟩
                · have h1 := flat_len hus
                  rw [h0, List.length_nil] at h1
                  have h2 : 0 < us.length * (s + 1) := Nat.mul_pos (by omega) (by omega)
                  omega
                · subst hA
                  refine ⟨_, _, (relV_ptr ⟨b, off + k * (s + 1), us[k], rfl, hZ, by omega, fun i u hu => ?_, fun i p u h1 h2 => hd k i ex us[k] p u hex hu1 h1 h2⟩), (run b off k _ cap hn hkx hev), hk⟩
                  have := hcell _ u (flat_get hus hu1 hu)
                  rwa [Nat.add_assoc]
              · exact hk.elim
        · obtain ⟨ob, hob, hk⟩ := aOb_get hk
          split at hk
          · split at hk
            · rename_i hs'
              have hs' := Nat.eq_of_beq_eq_true hs'
              subst hs'
              obtain ⟨us, h0, hl, hxs, hus, hown, hd⟩ := h.ws.obj _ _ hob
              generalize hev : a.eval x = ve at hx
              cases hx with
              | one _ _ hx =>
                have hx := hx.1
                subst hx
                obtain ⟨k, ex, hn, hex, hk⟩ := hk.h
                have hkx := (List.getElem?_eq_some_iff.1 hex).1
                obtain ⟨b, hb⟩ := own_blk hown (by omega)
                obtain ⟨cap, cur, hv, _⟩ := own_cells hown hb
                refine ⟨_, _, (relV_ref hb rfl), ?_, hk⟩
                have := run b 0 k _ cap hn hkx (by rw [hev, hv])
                rw [Nat.zero_add] at this
                exact this
            · exact hk.elim
          · exact hk.elim
        · exact hk.elim
    · exact hk.elim
  · exact hk.elim

theorem reads_index {K : AV → Prop} {F : Prop} (he : E.Ok) (h : Sim E.W S Z ρ st a w) {t : TypeId} {x ix : Operand} (ho : o.op = .index t x ix)
    (hk : aEv st x fun x => aEv st ix fun i => aIndex E t x i F K) : Reads E Z ρ o a w K ∨ F := by
  obtain ⟨vx, hx, hk⟩ := aEv_get h hk
  obtain ⟨vi, hi, hk⟩ := aEv_get h hk
  unfold aIndex at hk
  split at hk
  · rename_i s ki n
    have ei := relV_pv hi
    have ex := relV_pv hx
    obtain ⟨ti, hti, hk⟩ := aTI_get he hk
    split at hk
    · rename_i hs
      have hu := hti.str hs
      obtain ⟨k, b, hn, hb, hk2⟩ := hk
      subst hn
      refine .inl ⟨_, _, (relV_of_pv rfl), ?_, hk2⟩
      simp [execOp, ho, ei, ex, Instr.index, asIntOf, run_underlying hu, hb]
    · exact .inr hk
  · exact .inr hk

theorem aBound_get (h : Sim E.W S Z ρ st a w) {x : Option Operand} {K : Option Int → Prop} (hk : aBound st x K) : (x = none ∧ K none) ∨ ∃ y k n, x = some y ∧ a.eval y = .int k n ∧ K (some n) := by
  unfold aBound at hk
  split at hk
  · exact .inl ⟨rfl, hk⟩
  · rename_i y
    obtain ⟨v, hv, hk⟩ := aEv_get h hk
    split at hk
    · exact .inr ⟨y, _, _, rfl, relV_pv hv, hk⟩
    · exact hk.elim

/-- The bounds that a cut takes. -/
theorem run_cut {P : Program} {len cap : Nat} (isSl : Bool) (hc : len ≤ cap) {lo hi : Option Int} {lv hv : Option Value} (hlo : (lo = none ∧ lv = none) ∨ ∃ k n, lo = some n ∧ lv = some (.int k n)) (hhi : (hi = none ∧ hv = none) ∨ ∃ k n, hi = some n ∧ hv = some (.int k n))
    {l h : Nat} (h1 : loIs lo l) (h2 : hiIs len hi h) (h3 : l ≤ h) (h4 : h ≤ len) (w : World) :
    (Instr.sliceBounds isSl len cap lv hv none).run P w = .ok (l, h, cap) w := by
  have c1 : ∀ k, (Instr.sliceBound (.int k (h : Int)) cap (if isSl then .sliceAcap else .sliceAlen)).run P w = .ok h w := fun k => by
    rw [run_sliceBound _ _ _ _ _ (by omega) (by omega)]; simp
  have c2 : ∀ k, (Instr.sliceBound (.int k (l : Int)) h .sliceB).run P w = .ok l w := fun k => by
    rw [run_sliceBound _ _ _ _ _ (by omega) (by omega)]; simp
  rcases hlo with ⟨rfl, rfl⟩ | ⟨kl, nl, rfl, rfl⟩ <;> rcases hhi with ⟨rfl, rfl⟩ | ⟨kh, nh, rfl, rfl⟩
  · simp only [loIs, hiIs] at h1 h2
    subst h1 h2
    simp [Instr.sliceBounds]
  · simp only [loIs, hiIs] at h1 h2
    subst h1 h2
    simp [Instr.sliceBounds, c1]
  · simp only [loIs, hiIs] at h1 h2
    subst h1 h2
    simp [Instr.sliceBounds, c2]
  · simp only [loIs, hiIs] at h1 h2
    subst h1 h2
    simp [Instr.sliceBounds, c1, c2]

theorem reads_slice {K : AV → Prop} {F : Prop} (he : E.Ok) (h : Sim E.W S Z ρ st a w) {t : TypeId} {x : Operand} {lo hi : Option Operand} (ho : o.op = .slice t x lo hi none)
    (hk : aEv st x fun x => aSlice E st t x lo hi F K) : Reads E Z ρ o a w K ∨ F := by
  obtain ⟨vx, hx, hk⟩ := aEv_get h hk
  unfold aSlice at hk
  have main : ∀ (lo' hi' : Option Int), ((lo' = none ∧ lo.map a.eval = none) ∨ ∃ k n, lo' = some n ∧ lo.map a.eval = some (.int k n)) → ((hi' = none ∧ hi.map a.eval = none) ∨ ∃ k n, hi' = some n ∧ hi.map a.eval = some (.int k n)) →
      aTI E.T t (aSliceB E vx lo' hi' F K) → Reads E Z ρ o a w K ∨ F := by
    intro lo' hi' hlo hhi hk
    obtain ⟨i, hi0, hk1⟩ := aTI_get he hk
    clear hk
    unfold aSliceB at hk1
    split at hk1
    · split at hk1
      · rename_i hs
        have e := relV_pv hx
        obtain ⟨l, h0, h1, h2, h3, h4, hk2⟩ := hk1
        refine .inl ⟨_, _, (relV_of_pv rfl), ?_, hk2⟩
        have hu := hi0.str hs
        have := run_cut (P := E.P) false (Nat.le_refl _) hlo hhi h1 h2 h3 h4 w
        simp only [execOp, ho, e, Instr.sliceAt, Instr.slice, Sem.run_bind, run_underlying hu, Result.andThen_ok, Option.map_none, Option.isSome_none, Bool.false_eq_true, if_false, this, Sem.run_pure]
      · exact .inr hk1
    · rename_i xs
      split at hk1
      rotate_left
      · exact .inr hk1
      rename_i e hs
      have hu := hi0.sl hs
      obtain ⟨j, hj, hk2⟩ := aTI_get he hk1
      clear hk1
      obtain ⟨l, h0, h1, h2, h3, h4, hsz, hk⟩ := hk2
      generalize hev : a.eval x = ve at hx
      cases hx with
      | one _ _ hx =>
        cases hx with
        | sl _ A cap s us hc hm hl hxs hus hr hd =>
          have := run_cut (P := E.P) true hc hlo hhi h1 h2 h3 h4 w
          have hrun : ∃ A', (execOp a.eval o).run E.P w = .ok (.value (.slice A' (h0 - l) (cap - l))) w ∧ A' = (if cap = l then A else A.map (·.add (l * j.size))) := by
            refine ⟨_, ?_, rfl⟩
            simp only [execOp, ho, hev, Instr.sliceAt, Instr.slice, Sem.run_bind, run_underlying hu, Result.andThen_ok, Option.map_none, this, hj.sz, Sem.run_pure]
          obtain ⟨A', hrun, hA'⟩ := hrun
          have hlen : ((xs.take h0).drop l).length = h0 - l := by simp; omega
          refine .inl ⟨_, _, (relV_d ?_), hrun, hk⟩
          show RelD Z w (.sl ((xs.take h0).drop l)) (.slice A' (h0 - l) (cap - l))
          rw [← hlen]
          refine .sl _ A' (cap - l) s ((us.take h0).drop l) (by rw [hlen]; omega) (by omega) (by simp [hl]) (fun x hx => hxs x (List.mem_of_mem_take (List.mem_of_mem_drop hx))) (fun u hu => hus u (List.mem_of_mem_take (List.mem_of_mem_drop hu))) ?_ (fun i k x u p q h5 h6 h7 h8 => ?_)
          · by_cases hemp : ((us.take h0).drop l).flatten = []
            · exact .inl hemp
            · rcases hr with hr | ⟨b, off, hA, hZ, hcell⟩
              · refine absurd (List.flatten_eq_nil_iff.2 fun u hu => ?_) hemp
                exact List.flatten_eq_nil_iff.1 hr u (List.mem_of_mem_take (List.mem_of_mem_drop hu))
              · have hlt : l < h0 := by
                  rcases Nat.lt_or_ge l h0 with h | h
                  · exact h
                  · refine absurd ?_ hemp
                    rw [List.drop_of_length_le (by simp; omega)]
                    rfl
                have hxe : xs ≠ [] := by intro e; subst e; simp at h4; omega
                obtain ⟨x0, hx0⟩ := List.exists_mem_of_ne_nil xs hxe
                have hsj : s = j.size := (hxs x0 hx0).symm.trans (hsz x0 hx0)
                rw [if_neg (by omega), hA] at hA'
                refine .inr ⟨b, off + l * s, ?_, hZ, fun i u hu => ?_⟩
                · rw [hA', hsj]
                  simp only [Option.map_some, Addr.add]
                  split
                  · rename_i e; simp [e]
                  · rfl
                · have e1 : us.flatten = (us.take l).flatten ++ (((us.take h0).drop l).flatten ++ (us.drop h0).flatten) := by
                    rw [← List.flatten_append, ← List.flatten_append]
                    congr 1
                    have e2 : us.take l = (us.take h0).take l := by rw [List.take_take, Nat.min_eq_left h3]
                    rw [e2, ← List.append_assoc, List.take_append_drop, List.take_append_drop]
                  have e3 : (us.take l).flatten.length = l * s := by
                    rw [flat_len fun u hu => hus u (List.mem_of_mem_take hu), List.length_take, Nat.min_eq_left (by omega)]
                  have := hcell (l * s + i) u (by
                    rw [e1, List.getElem?_append_right (by omega), e3, Nat.add_sub_cancel_left, List.getElem?_append_left (List.getElem?_eq_some_iff.1 hu).1]
                    exact hu)
                  rwa [← Nat.add_assoc] at this
          · rw [List.getElem?_drop] at h5 h6
            rw [List.getElem?_take] at h5 h6
            split at h5
            · rename_i hlt
              rw [if_pos hlt] at h6
              exact hd _ k x u p q h5 h6 h7 h8
            · cases h5
    · exact .inr hk1
  rcases aBound_get h hk with ⟨e1, hk1⟩ | ⟨y, k, n, e1, hy, hk1⟩
  · rcases aBound_get h hk1 with ⟨e2, hk2⟩ | ⟨y2, k2, n2, e2, hy2, hk2⟩
    · exact main none none (.inl ⟨rfl, by rw [e1]; rfl⟩) (.inl ⟨rfl, by rw [e2]; rfl⟩) hk2
    · exact main none (some n2) (.inl ⟨rfl, by rw [e1]; rfl⟩) (.inr ⟨k2, n2, rfl, by simp [e2, hy2]⟩) hk2
  · rcases aBound_get h hk1 with ⟨e2, hk2⟩ | ⟨y2, k2, n2, e2, hy2, hk2⟩
    · exact main (some n) none (.inr ⟨k, n, rfl, by simp [e1, hy]⟩) (.inl ⟨rfl, by rw [e2]; rfl⟩) hk2
    · exact main (some n) (some n2) (.inr ⟨k, n, rfl, by simp [e1, hy]⟩) (.inr ⟨k2, n2, rfl, by simp [e2, hy2]⟩) hk2
end
end Go.Proofs.YtlhanpkfnhnegaaDoor
