/- Maps of the call's own, keyed by int64: what they hold, as a function of the key. -/
import Derived.Test.YthmckpghadfeeaaGreatAvJ3
import Derived.Test.YthmckpghadfeeaaGreatAvR
import Derived.Maps.OwnSet
set_option linter.unusedVariables false
set_option linter.unusedSimpArgs false
set_option maxRecDepth 100000
namespace Go.Proofs.YthmckpghadfeeaaGreat
open Go.RowKit

def mapRd (v : Value) : Option (DataW Value × List MemPlace) := some (.held v, [])
def atF (f : Int → Option Value) (x : Int) (z : DataW Value) : DataW Value := match f x with | some v => .held v | none => z
/-- Block b is a map of at most N entries that holds f. -/
def MapQ (P : Program) (k : TypeId) (N : Nat) (f : Int → Option Value) (w : World) (v : Value) : Prop :=
  ∃ b n D, v = .map (some b) ∧ n ≤ N ∧ w.ownsMap P k mapRd b n D ∧ ∀ x : Int, (Lit.int .i64 x).wf = true → Maps.has D (.int .i64 x) = (f x).isSome ∧ ∀ z, D.atKey (.int .i64 x) z = atF f x z
def mapO (P : Program) (k : TypeId) (N : Nat) (f : Int → Option Value) : AO := .any (MapQ P k N f)
def updF (f : Int → Option Value) (x : Int) (v : Option Value) : Int → Option Value := fun y => if y = x then v else f y
theorem updF_at (f : Int → Option Value) (x : Int) (v : Option Value) : updF f x v x = v := if_pos rfl
theorem updF_ne {f : Int → Option Value} {x y : Int} {v : Option Value} (h : y ≠ x) : updF f x v y = f y := if_neg h

section
variable {P : Program} {k : TypeId} {N : Nat} {f : Int → Option Value} {Z : Nat → Prop} {w : World} {ρ : Nat → Value} {id : Nat}
theorem mapO_mk {b n : Nat} {D : DataW Value} (hρ : ρ id = .map (some b)) (hn : n ≤ N) (h : w.ownsMap P k mapRd b n D)
    (hf : ∀ x : Int, (Lit.int .i64 x).wf = true → Maps.has D (.int .i64 x) = (f x).isSome ∧ ∀ z, D.atKey (.int .i64 x) z = atF f x z) : RelO Z w ρ id (mapO P k N f) := by
  refine ⟨b, by rw [hρ]; rfl, h.lt, fun w' hw => ⟨b, n, D, hρ, hn, ?_, hf⟩⟩
  obtain ⟨es, clock, hb, r⟩ := h
  exact ⟨es, clock, hw.trans hb, r⟩
theorem mapO_get (h : RelO Z w ρ id (mapO P k N f)) : ∃ b n D, ρ id = .map (some b) ∧ n ≤ N ∧ w.ownsMap P k mapRd b n D ∧ ∀ x : Int, (Lit.int .i64 x).wf = true → Maps.has D (.int .i64 x) = (f x).isSome ∧ ∀ z, D.atKey (.int .i64 x) z = atF f x z := by
  obtain ⟨b, _, _, hq⟩ := h
  exact hq w rfl
end

section
variable {E : AEnv} {S : Base} {o : Oper} {st : ASt} {K : ASt → Prop} {k e : TypeId} {N : Nat} {f : Int → Option Value}
theorem AOp.makeMap {t : TypeId} {d : Tmp} (k : TypeId) (ho : o.op = .makeMap t none) (hd : o.dst = some d) (hk : aNew st d (mapO E.P k 0 fun _ => none) fun st => aDst st (some d) (.one (.own d)) K) : AOp E S o st K := by
  refine ⟨fun a w Q hs => ?_⟩
  obtain ⟨Z, ρ, hs⟩ := hs
  have hrun : (execOp a.eval o).run E.P w = .ok (.value (.map (some w.heap.size))) (w.alloc (.map #[] 0)) := by
    have := @run_makeMap E.P t w
    simp [execOp, ho, this]
  unfold Oper.wp
  rw [hrun]
  have hg := grownBy_alloc w (.map #[] 0) none
  have hrel : RelO Z (w.alloc (.map #[] 0)) (fun i => if i = d then .map (some w.heap.size) else ρ i) d (mapO E.P k 0 fun _ => none) :=
    mapO_mk (by simp) (Nat.le_refl _) (World.ownsMap_made w E.P k mapRd) fun x hx => ⟨rfl, fun z => rfl⟩
  have h1 := hs.renew d (.map (some w.heap.size)) (mapO E.P k 0 fun _ => none) hg (by simp) (fun b hb => by simp [blkOf] at hb; right; omega) hrel
  have h2 := aNew_get hk
  have h3 := h1.put o.dst (x := .one (.own d)) (v := .map (some w.heap.size)) (relV_own (by simp) rfl)
  rw [hd] at h3
  refine ⟨_, ?_, aDst_put h2⟩
  rw [hd]
  exact ⟨Z, _, h3⟩
theorem look_reads {Z : Nat → Prop} {ρ : Nat → Value} {a : Act} {w : World} {t : TypeId} {x i : Operand} {ok : Bool} {id : Nat} {n : Int} {z : Value} (hs : Sim E.W S Z ρ st a w) (ho : o.op = .lookup t x i ok) (ht : E.P.underlying t = some (.map k e)) (hk : E.P.underlying k = some (.int .i64)) (hz : ∀ w, (zeroValue e).run E.P w = .ok z w)
    (hx : aEv st x fun v => v = .one (.own id)) (hi : aEv st i fun v => v = vI .i64 n) (hob : aOb st.ob id fun o => o = mapO E.P k N f) (hn : (Lit.int .i64 n).wf = true) (r : AV) (hr : ∀ Z w ρ, RelV Z w ρ r ((f n).getD z)) :
    ∃ u, RelV Z w ρ (match (generalizing := false) ok with | true => .tup [r, vB (f n).isSome] | false => r) u ∧ (execOp a.eval o).run E.P w = .ok (.value u) w := by
  obtain ⟨vx, hvx, rfl⟩ := aEv_get hs hx
  obtain ⟨vi, hvi, rfl⟩ := aEv_get hs hi
  obtain ⟨ob, hob, rfl⟩ := aOb_get hob
  obtain ⟨b, m, D, hρ, hm, hown, hf⟩ := mapO_get (hs.ws.obj id _ hob)
  have e1 : a.eval x = .map (some b) := by
    cases hvx with
    | one _ _ h => exact h.1.trans hρ
  have e2 : a.eval i = .int .i64 n := relV_pv hvi
  have hl := Maps.int_keyed hk
  have hkey := Maps.keyOf_int_mk hk hn
  have at_ : D.atKey (.int .i64 n) (.held z) = .held ((f n).getD z) := by
    rw [(hf n hn).2]; unfold atF; cases f n <;> rfl
  cases ok with
  | false =>
    obtain ⟨v, ps, hrun, hv⟩ := hown.lookup hl ht (hz w) (zd := .held z) (zp := []) rfl hkey
    have hv' : v = (f n).getD z := by
      simp only [mapRd, Option.some.injEq, Prod.mk.injEq] at hv
      rw [at_] at hv
      injection hv.1
    exact ⟨v, by rw [hv']; exact hr Z w ρ, by simp [execOp, ho, e1, e2, hrun]⟩
  | true =>
    obtain ⟨v, ps, hrun, hv⟩ := hown.look_ok hl ht (hz w) (zd := .held z) (zp := []) rfl hkey
    have hv' : v = (f n).getD z := by
      simp only [mapRd, Option.some.injEq, Prod.mk.injEq] at hv
      rw [at_] at hv
      injection hv.1
    refine ⟨.tuple #[v, .bool (Maps.has D (.int .i64 n))], ?_, by simp [execOp, ho, e1, e2, hrun]⟩
    have : (Value.tuple #[v, .bool (Maps.has D (.int .i64 n))]) = .tuple [v, .bool (Maps.has D (.int .i64 n))].toArray := rfl
    rw [this]
    refine .tup _ _ rfl fun j c u hc hu => ?_
    match j, hc, hu with
    | 0, hc, hu => simp at hc hu; subst hc hu; rw [hv']; exact hr Z w ρ
    | 1, hc, hu => simp at hc hu; subst hc hu; rw [(hf n hn).1]; exact relV_of_pv rfl
    | j + 2, hc, _ => simp at hc
theorem AOp.look {t : TypeId} {x i : Operand} {ok : Bool} {id : Nat} {n : Int} {z : Value} (ho : o.op = .lookup t x i ok) (ht : E.P.underlying t = some (.map k e)) (hk : E.P.underlying k = some (.int .i64)) (hz : ∀ w, (zeroValue e).run E.P w = .ok z w)
    (hx : aEv st x fun v => v = .one (.own id)) (hi : aEv st i fun v => v = vI .i64 n) (hob : aOb st.ob id fun o => o = mapO E.P k N f) (hn : (Lit.int .i64 n).wf = true) (r : AV) (hr : ∀ Z w ρ, RelV Z w ρ r ((f n).getD z))
    (hK : aDst st o.dst (match (generalizing := false) ok with | true => .tup [r, vB (f n).isSome] | false => r) K) : AOp E S o st K := by
  refine .reads fun Z ρ a w hs => ?_
  obtain ⟨u, hu, hrun⟩ := look_reads hs ho ht hk hz hx hi hob hn r hr
  exact ⟨_, u, hu, hrun, hK⟩
theorem AFRd.look {K : AV → Prop} {t : TypeId} {x i : Operand} {ok : Bool} {id : Nat} {n : Int} {z : Value} (ho : o.op = .lookup t x i ok) (ht : E.P.underlying t = some (.map k e)) (hk : E.P.underlying k = some (.int .i64)) (hz : ∀ w, (zeroValue e).run E.P w = .ok z w)
    (hx : aEv st x fun v => v = .one (.own id)) (hi : aEv st i fun v => v = vI .i64 n) (hob : aOb st.ob id fun o => o = mapO E.P k N f) (hn : (Lit.int .i64 n).wf = true) (r : AV) (hr : ∀ Z w ρ, RelV Z w ρ r ((f n).getD z))
    (hK : K (match (generalizing := false) ok with | true => .tup [r, vB (f n).isSome] | false => r)) : AFRd E o st K :=
  ⟨_, hK, fun S Z ρ a w hs => look_reads hs ho ht hk hz hx hi hob hn r hr⟩
/-- The map is written: v's value is u. -/
theorem AOp.mapPut {t : TypeId} {x i v : Operand} {id : Nat} {n : Int} {u : Value} (ho : o.op = .mapUpdate t x i v) (ht : E.P.underlying t = some (.map k e)) (hk : E.P.underlying k = some (.int .i64)) (hN : N < 9223372036854775807)
    (hx : aEv st x fun v => v = .one (.own id)) (hi : aEv st i fun v => v = vI .i64 n) (hob : aOb st.ob id fun o => o = mapO E.P k N f) (hn : (Lit.int .i64 n).wf = true) (hv : aEv st v fun v => ∀ Z w ρ y, RelV Z w ρ v y → y = u)
    (hK : aSetO id (mapO E.P k (N + 1) (updF f n (some u))) st.ob fun ob => aDst ⟨st.tm, ob⟩ o.dst (.one .und) K) : AOp E S o st K := by
  refine ⟨fun a w Q hs => ?_⟩
  obtain ⟨Z, ρ, hs⟩ := hs
  obtain ⟨vx, hvx, rfl⟩ := aEv_get hs hx
  obtain ⟨vi, hvi, rfl⟩ := aEv_get hs hi
  obtain ⟨vv, hvv, huu⟩ := aEv_get hs hv
  obtain ⟨ob, hob, rfl⟩ := aOb_get hob
  obtain ⟨b, m, D, hρ, hm, hown, hf⟩ := mapO_get (hs.ws.obj id _ hob)
  have e1 : a.eval x = .map (some b) := by
    cases hvx with
    | one _ _ h => exact h.1.trans hρ
  have e2 : a.eval i = .int .i64 n := relV_pv hvi
  have e3 : a.eval v = u := huu Z w ρ _ hvv
  have hl := Maps.int_keyed hk
  have hkey := Maps.keyOf_int_mk hk hn
  obtain ⟨w', hrun, hown', hturn⟩ := hown.store hl ht (by unfold maxLen; omega) hkey (val := u) (d := .held u) (ps := []) rfl
  unfold Oper.wp
  simp only [execOp, ho, e1, e2, e3, Sem.run_bind, hrun, Result.andThen_ok, Sem.run_pure]
  have hrel : RelO Z w' ρ id (mapO E.P k (N + 1) (updF f n (some u))) := by
    refine mapO_mk hρ (by omega) hown' fun y hy => ?_
    by_cases hyn : y = n
    · subst hyn
      refine ⟨by rw [Maps.has_put_same hown.isMap (hl.key hkey), updF_at]; rfl, fun z => ?_⟩
      rw [Maps.atKey_put_same hown.isMap (hl.key hkey)]; unfold atF; rw [updF_at]
    · have hne : (Lit.int .i64 y) ≠ .int .i64 n := fun e => hyn (by injection e)
      refine ⟨by rw [Maps.has_put_other hne, updF_ne hyn]; exact (hf y hy).1, fun z => ?_⟩
      rw [Maps.atKey_put_other hne, (hf y hy).2]; unfold atF; rw [updF_ne hyn]
  have h1 := hs.upd id _ (mapO E.P k (N + 1) (updF f n (some u))) hob (g := b) (by rw [hρ]; rfl) hturn.grown hrel
  exact ⟨_, ⟨Z, ρ, h1.put o.dst (x := .one .und) (v := undef) (.one _ _ (show RelC Z w' ρ .und undef from rfl))⟩, aDst_put (aSetO_get (K := fun ob => aDst ⟨st.tm, ob⟩ o.dst (.one .und) K) hK)⟩
theorem AOp.mapDel {t : TypeId} {x i : Operand} {id : Nat} {n : Int} {c : Go.Call} (ho : o.op = .call c) (hc : c = { callee := .builtin .delete, args := #[x, i], argTypes := #[t, k] }) (ht : E.P.underlying t = some (.map k e)) (hk : E.P.underlying k = some (.int .i64))
    (hx : aEv st x fun v => v = .one (.own id)) (hi : aEv st i fun v => v = vI .i64 n) (hob : aOb st.ob id fun o => o = mapO E.P k N f) (hn : (Lit.int .i64 n).wf = true)
    (hK : aSetO id (mapO E.P k N (updF f n none)) st.ob fun ob => aDst ⟨st.tm, ob⟩ o.dst (.one .dead) K) : AOp E S o st K := by
  subst hc
  refine ⟨fun a w Q hs => ?_⟩
  obtain ⟨Z, ρ, hs⟩ := hs
  obtain ⟨vx, hvx, rfl⟩ := aEv_get hs hx
  obtain ⟨vi, hvi, rfl⟩ := aEv_get hs hi
  obtain ⟨ob, hob, rfl⟩ := aOb_get hob
  obtain ⟨b, m, D, hρ, hm, hown, hf⟩ := mapO_get (hs.ws.obj id _ hob)
  have e1 : a.eval x = .map (some b) := by
    cases hvx with
    | one _ _ h => exact h.1.trans hρ
  have e2 : a.eval i = .int .i64 n := relV_pv hvi
  have hl := Maps.int_keyed hk
  have hkey := Maps.keyOf_int_mk hk hn
  obtain ⟨w', hrun, hown', hturn⟩ := hown.drop hl ht hkey o.type
  have hrel : RelO Z w' ρ id (mapO E.P k N (updF f n none)) := by
    refine mapO_mk hρ hm hown' fun y hy => ?_
    by_cases hyn : y = n
    · subst hyn
      refine ⟨by rw [Maps.has_del_same, updF_at]; rfl, fun z => ?_⟩
      rw [Maps.atKey_del_same]; unfold atF; rw [updF_at]
    · have hne : (Lit.int .i64 y) ≠ .int .i64 n := fun e => hyn (by injection e)
      refine ⟨by rw [Maps.has_del_other hne, updF_ne hyn]; exact (hf y hy).1, fun z => ?_⟩
      rw [Maps.atKey_del_other hne, (hf y hy).2]; unfold atF; rw [updF_ne hyn]
  have h1 := hs.upd id _ (mapO E.P k N (updF f n none)) hob (g := b) (by rw [hρ]; rfl) hturn.grown hrel
  unfold Oper.wp
  simp [execOp, ho, resolve, invoke, builtin, e1, e2, hrun, Result.andThen]
  exact ⟨_, ⟨Z, ρ, h1.put o.dst (x := .one .dead) (v := .tuple #[]) (.one _ _ trivial)⟩, aDst_put (aSetO_get (K := fun ob => aDst ⟨st.tm, ob⟩ o.dst (.one .dead) K) hK)⟩
end
end Go.Proofs.YthmckpghadfeeaaGreat
