/- J18 -/
import Derived.Test.YtcmknngafflcnaaGreatAvJ3
import Derived.OrdersHeld
import Derived.Test.YtcmknngafflcnaaGreatJ02
set_option linter.unusedVariables false
set_option linter.unusedSimpArgs false
set_option maxRecDepth 100000
namespace Go.Proofs.YtcmknngafflcnaaGreat
open Go.RowKit
section
variable {E : ba} {S : bt} {Z : Nat → Prop} {ρ : Nat → Value} {st : ASt} {a : Act} {w : World} {K : ASt → Prop} {o : Oper}
structure js where
 id : Nat
 fid : Nat
 b : Nat
 us : List Value
 t : TypeId
def AG (b : Nat) (us : List Value) (t : TypeId) : World → Value → Prop := fun w v => v = .pointer (some ⟨b, 0, none⟩) ∧ w.heap[b]? = some (.cells us.toArray t (0, 0))
def zO (R : (Nat → Prop) → World → Value → Prop) : AO := .frame [.one (.d (.x R))] [.bool true]
def xH (ps : List js) (w : World) : Prop := ∀ p ∈ ps, w.heap[p.b]? = some (.cells p.us.toArray p.t (0, 0))
def HY (E : ba) (Z : Nat → Prop) (ρ : Nat → Value) (o : Oper) (a : Act) (w : World) (C : World → Prop) (K : AV → Prop) : Prop := ∃ x v, bM Z w ρ x v ∧ (∀ w', C w' → (execOp a.eval o).run E.P w' = .ok (.value v) w') ∧ K x
theorem iK {t : TypeId} {i : TI} (hi : ap E.P t i) {b off : Nat} {us : List Value} {cs : List AC} (hl : us.length = cs.length) (hr : ∀ (j : Nat) c u, cs[j]? = some c → us[j]? = some u → eh Z w ρ c u) {K : AV → Prop} (hk : m0 i cs K) :
  ∃ x v, (∀ w' : World, (∀ j u, us[j]? = some u → w'.cell? ⟨b, off + j, none⟩ = some u) → (loadVar t ⟨b, off, none⟩).run E.P w' = .ok v w') ∧ bM Z w ρ x v ∧ K x := by
 unfold m0 at hk
 unfold loadVar
 split at hk
 ·rename_i hg
  obtain ⟨hle, hk⟩ := jy hk
  refine ⟨_, .agg (us.take i.size).toArray, fun w' hc => ?_, .agg _ (us.take i.size) (by simp [hl]) fun j c u h1 h2 => ?_, hk⟩
  ·have hlen : (us.take i.size).length = i.size := by simp; omega
   have := run_loadCells_list (P := E.P) w' ⟨b, off, none⟩ (us.take i.size) (fun j u hu => by
    have hadd : (⟨b, off, none⟩ : Addr).add j = ⟨b, off + j, none⟩ := by unfold Addr.add; split <;> simp_all
    rw [hadd]
    rw [List.getElem?_take] at hu
    split at hu
    ·exact hc j u hu
    ·cases hu)
   rw [hlen] at this
   simp only [Sem.run_bind, hi.ag, hg, Result.andThen_ok, if_true, hi.sz, this, Sem.run_pure]
  ·rw [List.getElem?_take] at h1 h2
   split at h1
   ·rename_i hlt; rw [if_pos hlt] at h2; exact hr j c u h1 h2
   ·cases h1
 ·rename_i hg
  split at hk
  ·rename_i c r
   cases us with
   | nil => simp at hl
   | cons u us =>
    refine ⟨_, u, fun w' hc => ?_, .one _ _ (hr 0 c u rfl rfl), hk⟩
    have := hc 0 u rfl
    simp only [Nat.add_zero] at this
    simp [hi.ag, hg, this]
  ·exact hk.elim
theorem BJ (he : E.Ok) {t : TypeId} {i : TI} (hi : ap E.P t i) {us : List Value} {cs : List AC} (hl : us.length = cs.length) (hr : ∀ (j : Nat) c u, cs[j]? = some c → us[j]? = some u → eh Z w ρ c u) {off : Nat} (hoff : off ≤ cs.length) {K : AV → Prop} (hk : m0 i (cs.drop off) K) :
  ∃ x v, (∀ w', (part t us.toArray off).run E.P w' = .ok v w') ∧ bM Z w ρ x v ∧ K x := by
 unfold m0 at hk
 unfold part
 split at hk
 ·rename_i hg
  obtain ⟨hle, hk⟩ := jy hk
  refine ⟨_, .agg ((us.drop off).take i.size).toArray, fun w' => ?_, .agg _ ((us.drop off).take i.size) (by simp [hl]) fun j c u h1 h2 => ?_, hk⟩
  ·simp only [Sem.run_bind, hi.ag, hg, Result.andThen_ok, if_true, hi.sz, Sem.run_pure]
   congr 2
   simp [List.extract]
  ·rw [List.getElem?_take] at h1 h2
   split at h1
   ·rename_i hlt
    rw [if_pos hlt] at h2
    rw [List.getElem?_drop] at h1 h2
    exact hr _ c u h1 h2
   ·cases h1
 ·rename_i hg
  split at hk
  ·rename_i c r hcs
   have h1 : cs[off]? = some c := by
    have := congrArg (·[0]?) hcs
    simpa using this
   have hlt : off < us.length := by rw [hl]; exact (List.getElem?_eq_some_iff.1 h1).1
   refine ⟨_, us[off], fun w' => ?_, .one _ _ (hr off c us[off] h1 (List.getElem?_eq_getElem hlt)), hk⟩
   simp [hi.ag, hg, hlt]
  ·exact hk.elim
def xQ : List js → Nat → (js → Prop) → Prop
 | [], _, _ => False
 | p :: r, i, K => match Nat.beq p.id i with
  | true => K p
  | false => xQ r i K
theorem tN {K : js → Prop} {i : Nat} : ∀ {ps : List js}, xQ ps i K → ∃ p ∈ ps, p.id = i ∧ K p
 | [], h => h.elim
 | p :: r, h => by
  unfold xQ at h
  split at h
  ·rename_i e; exact ⟨p, by simp, Nat.eq_of_beq_eq_true e, h⟩
  ·obtain ⟨q, h1, h2⟩ := tN h; exact ⟨q, by simp [h1], h2⟩
def CK : List AV → (List AC → Prop) → Prop
 | [], K => K []
 | .one c :: r, K => CK r fun cs => K (c :: cs)
 | _ :: _, _ => False
theorem rv : ∀ {vs : List AV} {K : List AC → Prop}, CK vs K → ∃ cs, vs = cs.map .one ∧ K cs
 | [], _, h => ⟨[], rfl, h⟩
 | .one c :: r, K, h => by obtain ⟨cs, e, hk⟩ := rv (vs := r) h; exact ⟨c :: cs, by rw [e]; rfl, hk⟩
 | .agg _ :: _, _, h => h.elim
 | .tup _ :: _, _, h => h.elim
def Ey (E : ba) (ps : List js) (pre : Bool) (o : Oper) (st : ASt) (K : AV → Prop) : Prop :=
 match o.op with
 | .move x | .assign x => aEv st x K
 | .field t x f => aEv st x fun x => pQ E t x f K
 | .fieldAddr t x f => aEv st x fun x => gi E t x f K
 | .extract x i => aEv st x fun x => match x with
  | .tup vs => jw vs i K
  | _ => False
 | .load t x => aEv st x fun x => match x with
  | .one (.ref id k s off) => xQ ps id fun p => aOb st.ob p.id fun o1 => And (o1 = .any (AG p.b p.us p.t)) (aOb st.ob p.fid fun o2 => match o2 with
   | .frame vs us => And (k = 0) (And (us = p.us) (CK vs fun cs => qg cs off fun cs => aTI E.T t fun i => m0 i cs K))
   | _ => False)
  | .one (.ptr ds) => match pre with
   | true => rT ds fun cs => aTI E.T t fun i => m0 i cs K
   | false => False
  | _ => False
 | .indexAddr t x i => aEv st x fun x => aEv st i fun i => match x with
  | .one (.d (.sl xs)) => match i with
   | .one (.d (.pv (.int _ n))) => aTI E.T t fun ti => match ti.kind with
    | .sl e => aTI E.T e fun j => match j.size with
     | 0 => False
     | s + 1 => AIx xs n fun _ x => match y3 x (s + 1) with
      | true => K (.one (.ptr x))
      | false => False
    | _ => False
   | _ => False
  | _ => False
 | _ => False
theorem AH (he : E.Ok) {ps : List js} {pre : Bool} {C : World → Prop} {K : AV → Prop} (h : Sim E.W S Z ρ st a w) (hC1 : ∀ w', C w' → xH ps w') (hC2 : pre = true → ∀ w', C w' → ∀ b, Z b → w'.heap[b]? = w.heap[b]?) (hk : Ey E ps pre o st K) : HY E Z ρ o a w C K := by
 unfold Ey at hk
 split at hk
 ·rename_i x ho
  obtain ⟨v, hv, hk⟩ := aR h hk
  exact ⟨_, _, hv, fun w' _ => by simp [execOp, ho], hk⟩
 ·rename_i x ho
  obtain ⟨v, hv, hk⟩ := aR h hk
  exact ⟨_, _, hv, fun w' _ => by simp [execOp, ho], hk⟩
 ·rename_i t x f ho
  obtain ⟨vx, hx, hk⟩ := aR h hk
  unfold pQ at hk
  split at hk
  ·rename_i cs
   obtain ⟨i, hi, hk⟩ := aY he hk
   split at hk
   ·rename_i fs hfs
    obtain ⟨fields, hu, hf⟩ := hi.stf hfs
    obtain ⟨p, hp, hk⟩ := cA hk
    obtain ⟨j, hj, hk⟩ := aY he hk
    obtain ⟨hle, hk⟩ := fr hk
    rw [← hf, List.getElem?_map] at hp
    obtain ⟨fl, hfl, rfl⟩ := Option.map_eq_some_iff.1 hp
    have hfl' : fields[f]? = some fl := by simpa using hfl
    generalize hev : a.eval x = ve at hx
    cases hx with
    | agg _ us hl hr =>
     obtain ⟨y, v, hrun, hy, hk⟩ := BJ (w := w) (ρ := ρ) he hj hl hr hle hk
     refine ⟨_, _, hy, fun w' _ => ?_, hk⟩
     simp [execOp, ho, hev, Instr.field, run_underlying hu, hfl', asAgg, hrun]
   ·exact hk.elim
  ·exact hk.elim
 ·rename_i t x f ho
  obtain ⟨vx, hx, hk⟩ := aR h hk
  obtain ⟨i, hi, hk⟩ := aY he hk
  split at hk
  ·rename_i fs hfs
   obtain ⟨fields, hu, hf⟩ := hi.stf hfs
   obtain ⟨p, hp, hk⟩ := cA hk
   obtain ⟨j, hj, hk⟩ := aY he hk
   rw [← hf, List.getElem?_map] at hp
   obtain ⟨fl, hfl, rfl⟩ := Option.map_eq_some_iff.1 hp
   have hfl' : fields[f]? = some fl := by simpa using hfl
   split at hk
   ·exact hk.elim
   ·rename_i n hn
    have run : ∀ b off, a.eval x = .pointer (some ⟨b, off, none⟩) → ∀ w', (execOp a.eval o).run E.P w' = .ok (.value (.pointer (some ⟨b, off + fl.offset, none⟩))) w' := by
     intro b off e w'
     have := oc (P := E.P) (b := b) (off := off) (fl := fl) w' hj.sz (by omega)
     simp [execOp, ho, e, Instr.fieldAt, run_underlying hu, hfl', Instr.sureAddr, this]
    split at hk
    ·cases hx with
     | one _ _ hx =>
      obtain ⟨b, hb, e⟩ := hx
      refine ⟨_, _, (oa hb ?_), (fun w' _ => run _ _ e w'), hk⟩
      rw [Nat.add_assoc]
    ·cases hx with
     | one _ _ hx =>
      obtain ⟨b, off, us, e, hZ, hl, hc, hd⟩ := hx
      obtain ⟨hle, hk⟩ := fr hk
      refine ⟨_, _, (q4 ⟨b, off + fl.offset, us.drop fl.offset, rfl, hZ, by simp [hl], fun i u hu => ?_, fun i x u h1 h2 => ?_⟩), (fun w' _ => run _ _ e w'), hk⟩
      ·rw [List.getElem?_drop] at hu
       rw [Nat.add_assoc]
       exact hc _ u hu
      ·rw [List.getElem?_drop] at h1 h2
       exact hd _ x u h1 h2
    ·exact hk.elim
  ·exact hk.elim
 ·rename_i x i ho
  obtain ⟨vx, hx, hk⟩ := aR h hk
  split at hk
  ·rename_i vs
   obtain ⟨y, hy, hk⟩ := cA hk
   generalize hev : a.eval x = ve at hx
   cases hx with
   | tup _ us hl hr =>
    have hlt : i < us.length := by rw [hl]; exact (List.getElem?_eq_some_iff.1 hy).1
    refine ⟨_, _, (hr i y us[i] hy (List.getElem?_eq_getElem hlt)), fun w' _ => ?_, hk⟩
    simp [execOp, ho, hev, Instr.extract, hlt]
  ·exact hk.elim
 ·rename_i t x ho
  obtain ⟨vx, hx, hk⟩ := aR h hk
  split at hk
  ·rename_i id k s off
   obtain ⟨p, hp, hid, hk⟩ := tN hk
   obtain ⟨o1, ho1, rfl, hk⟩ := bH hk
   obtain ⟨o2, ho2, hk⟩ := bH hk
   cases o2 with
   | frame vs us =>
    simp only at hk
    obtain ⟨ek, eu, hk1⟩ := hk
    subst ek eu
    obtain ⟨cs, e0, hk⟩ := rv hk1
    subst e0
    obtain ⟨hle, hk⟩ := fr hk
    obtain ⟨i, hi, hk⟩ := aY he hk
    cases hx with
    | one _ _ hx =>
     obtain ⟨b, hb, e⟩ := hx
     obtain ⟨b', hb', hlt, hq⟩ := (show cw Z w ρ p.id (.any (AG p.b p.us p.t)) from h.ws.obj p.id _ ho1)
     have hq0 := hq w rfl
     rw [← hid, hq0.1] at hb
     simp only [aZ] at hb
     injection hb with hb
     subst hb
     rw [Nat.zero_mul, Nat.zero_add] at e
     obtain ⟨_, hfl, hfr⟩ := (show cw Z w ρ p.fid (.frame (cs.map .one) p.us) from h.ws.obj p.fid _ ho2)
     have hl : p.us.length = cs.length := by simpa using hfl
     obtain ⟨y, v, hrun, hy, hk⟩ := iK (E := E) (Z := Z) (w := w) (ρ := ρ) hi (b := p.b) (off := off) (us := p.us.drop off) (cs := cs.drop off) (by simp [hl]) (fun j c u h1 h2 => by
      rw [List.getElem?_drop] at h1 h2
      have := hfr (off + j) (.one c) u (by rw [List.getElem?_map, h1]; rfl) h2
      cases this with | one _ _ h => exact h) hk
     refine ⟨_, _, hy, fun w' hS => ?_, hk⟩
     have hcell := hC1 w' hS p hp
     have := hrun w' fun j u hu => by
      rw [List.getElem?_drop] at hu
      rw [cell_of_row w' p.b _ _ _ _ hcell]
      simpa using hu
     simp [execOp, ho, e, Instr.loadAt, Instr.sureAddr, this]
   | _ => exact hk.elim
  ·rename_i ds
   split at hk
   ·have hk := ip hk
    obtain ⟨i, hi, hk⟩ := aY he hk
    cases hx with
    | one _ _ hx =>
     obtain ⟨b, off, us, e, hZ, hl, hc, hd⟩ := hx
     obtain ⟨y, v, hrun, hy, hk⟩ := iK (E := E) (Z := Z) (w := w) (ρ := ρ) hi (b := b) (off := off) (us := us) (cs := ds.map .d) (by simp [hl]) (fun j c u h1 h2 => by
      rw [List.getElem?_map] at h1
      obtain ⟨d, h3, rfl⟩ := Option.map_eq_some_iff.1 h1
      exact hd j d u h3 h2) hk
     refine ⟨_, _, hy, fun w' hS => ?_, hk⟩
     have := hrun w' fun j u hu => (World.cell?_of_block (a := ⟨b, off + j, none⟩) (hC2 rfl w' hS b hZ)).trans (hc j u hu)
     simp [execOp, ho, e, Instr.loadAt, Instr.sureAddr, this]
   ·exact hk.elim
  ·exact hk.elim
 ·rename_i t x ix ho
  obtain ⟨vx, hx, hk⟩ := aR h hk
  obtain ⟨vi, hi, hk⟩ := aR h hk
  split at hk
  ·rename_i xs
   split at hk
   ·rename_i ki n
    have ei := bu hi
    obtain ⟨ti, hti, hk⟩ := aY he hk
    split at hk
    ·rename_i e hs
     have hu := hti.sl hs
     obtain ⟨j, hj, hk⟩ := aY he hk
     split at hk
     ·exact hk.elim
     ·rename_i s hjs
      have run : ∀ (b off k len cap : Nat), n = (k : Int) → k < len → a.eval x = .slice (some ⟨b, off, none⟩) len cap → ∀ w', (execOp a.eval o).run E.P w' = .ok (.value (.pointer (some ⟨b, off + k * (s + 1), none⟩))) w' := by
       intro b off k len cap hn hkl ev w'
       subst hn
       have hadd : (⟨b, off, none⟩ : Addr).add (k * (s + 1)) = ⟨b, off + k * (s + 1), none⟩ := by unfold Addr.add; split <;> simp_all
       have hnk : ¬ len ≤ k := by omega
       simp [execOp, ho, ei, ev, Instr.indexAt, asIntOf, run_underlying hu, hkl, hnk, hj.sz, hjs, hadd]
      generalize hev : a.eval x = ve at hx
      cases hx with
      | one _ _ hx =>
       cases hx with
       | sl xs A cap s' us hc hm hl hxs hus hr hd =>
        obtain ⟨k, ex, hn, hex, hk⟩ := hk.h
        split at hk
        ·rename_i hlen
         have hlen := tI hlen
         have hkx := (List.getElem?_eq_some_iff.1 hex).1
         have hku : k < us.length := by rw [hl]; exact hkx
         have hu1 : us[k]? = some us[k] := List.getElem?_eq_getElem hku
         have hul := hus us[k] (List.getElem_mem hku)
         have hs' : s' = s + 1 := by rw [← hxs ex (List.mem_of_getElem? hex)]; exact hlen
         subst hs'
         have hne : us.flatten ≠ [] := by
          intro h0
          have := jS hus hu1 (List.getElem?_eq_getElem (show 0 < us[k].length by omega))
          rw [h0] at this
          simp at this
         obtain ⟨b, off, hA, hZ, hcell⟩ := hr.resolve_left hne
         subst hA
         refine ⟨_, _, (q4 ⟨b, off + k * (s + 1), us[k], rfl, hZ, by rw [hul, hlen], fun i u hu => ?_, fun i d u h1 h2 => hd k i ex us[k] d u hex hu1 h1 h2⟩), (fun w' _ => run b off k _ cap hn hkx hev w'), hk⟩
         rw [Nat.add_assoc]
         exact hcell _ u (jS hus hu1 hu)
        ·exact hk.elim
    ·exact hk.elim
   ·exact hk.elim
  ·exact hk.elim
 ·exact hk.elim
end
inductive Sch where
 | done
 | take (i : Nat) (s : Sch)
 | one (i : Nat) (s : Sch)
 | two (i : Nat) (s : Sch) (j : Nat) (t : Sch)
 | three (i : Nat) (s : Sch) (j : Nat) (t : Sch) (k : Nat) (u : Sch)
structure cc (X Y : Prop) : Prop where
 l : X
 r : Y
def tS (E : ba) (S : bt) (ops : List Oper) (i : Nat) (st : ASt) (K : ASt → Prop) : Prop :=
 jw ops i fun o => tE ops o st (fun st => aop E S o st K) (fun st => co st o.dst (.one .und) K)
def hI (R : (Nat → Prop) → World → Value → Prop) : List js → ASt → Prop → Prop
 | [], st, X => aOb st.ob 9970 fun o => And (o = zO R) X
 | p :: r, st, X => aOb st.ob p.id fun o => And (o = .any (AG p.b p.us p.t)) (hI R r st X)
def ED (E : ba) (ps : List js) (pre : Bool) (ops : List Oper) (i : Nat) (st : ASt) (K : ASt → Prop) : Prop :=
 jw ops i fun o => tE ops o st (fun st => Ey E ps pre o st fun v => co st o.dst v K) (fun st => co st o.dst (.one .und) K)
def tT (E : ba) (S : bt) (ps : List js) (R : (Nat → Prop) → World → Value → Prop) (ops : List Oper) : Sch → ASt → (ASt → Prop) → Prop
 | .done, st, K => K st
 | .take i s, st, K => ED E ps false ops i st fun st => tT E S ps R ops s st K
 | .one i s, st, K => tS E S ops i st fun st => hI R ps st (tT E S ps R ops s st K)
 | .two i s j t, st, K => cc (tS E S ops i st fun st => hI R ps st (tT E S ps R ops s st K)) (tS E S ops j st fun st => hI R ps st (tT E S ps R ops t st K))
 | .three i s j t k u, st, K => cc (tS E S ops i st fun st => hI R ps st (tT E S ps R ops s st K)) (cc (tS E S ops j st fun st => hI R ps st (tT E S ps R ops t st K)) (tS E S ops k st fun st => hI R ps st (tT E S ps R ops u st K)))
def CN (E : ba) (S : bt) (ps : List js) (R : (Nat → Prop) → World → Value → Prop) (ops : List Oper) : Sch → ASt → (ASt → Prop) → Prop
 | .take i s, st, K => ED E ps true ops i st fun st => CN E S ps R ops s st K
 | s, st, K => tT E S ps R ops s st K
def inL (L : List Nat) (i : Nat) : Bool := L.contains i
def vb (A : List (List Nat)) (L : List Nat) (i : Nat) : Bool := Nat.blt i A.length && !inL L i && (A.getD i []).all (inL L)
def gX (ops : List Oper) (A : List (List Nat)) : Sch → List Nat → Bool
 | .done, L => (List.range A.length).all (inL L)
 | .take i s, L => vb A L i && (match ops[i]? with
   | some o => (List.range A.length).all fun j => Nat.beq j i || inL L j || inL (A.getD j []) i || (match ops[j]? with
    | some oj => o.apart ops.toArray oj
    | none => true)
   | none => false) && gX ops A s (i :: L)
 | .one i s, L => vb A L i && ((List.range A.length).all fun j => Nat.beq j i || !vb A L j) && gX ops A s (i :: L)
 | .two i s k t, L => vb A L i && vb A L k && ((List.range A.length).all fun j => Nat.beq j i || Nat.beq j k || !vb A L j) && gX ops A s (i :: L) && gX ops A t (k :: L)
 | .three i s k t m u, L => vb A L i && vb A L k && vb A L m && ((List.range A.length).all fun j => Nat.beq j i || Nat.beq j k || Nat.beq j m || !vb A L j) && gX ops A s (i :: L) && gX ops A t (k :: L) && gX ops A u (m :: L)
def E8 (ops : List Oper) : Bool := ops.all fun o => match o.op with | .select _ _ => false | _ => true
section
variable {E : ba} {S : bt} {ops : Array Oper}
theorem fA {listed : Array Bool} (hs : listed.size = ops.size) {i : Nat} :
  i ∈ Region.ready .any ops listed ↔ i < ops.size ∧ bB listed i = false ∧ ∀ e ∈ cn ops.toList i, bB listed e = true := by
 rw [mem_ready]
 constructor
 ·rintro ⟨h1, o, ho, h2⟩
  have hlt := (Array.getElem?_eq_some_iff.1 ho).1
  refine ⟨hlt, ?_, fun e he => ?_⟩
  ·simp only [bB, Array.getD_eq_getD_getElem?] at h1 ⊢
   rw [Array.getElem?_eq_getElem (by omega)] at h1 ⊢
   simpa using h1
  ·rw [bm (by simpa using ho)] at he
   obtain ⟨e', he', rfl⟩ := List.mem_map.1 he
   obtain ⟨hm, hb⟩ := List.mem_filter.1 he'
   exact h2 e' (by simpa using hm) hb
 ·rintro ⟨hlt, h1, h2⟩
  refine ⟨?_, ops[i], Array.getElem?_eq_getElem hlt, fun e he hb => ?_⟩
  ·simp only [bB, Array.getD_eq_getD_getElem?] at h1 ⊢
   rw [Array.getElem?_eq_getElem (by omega)] at h1 ⊢
   simpa using h1
  ·refine h2 _ ?_
   rw [bm (o := ops[i]) (by simp [hlt])]
   exact List.mem_map.2 ⟨e, List.mem_filter.2 ⟨by simpa using he, hb⟩, rfl⟩
theorem fa {A : List (List Nat)} (hA : ops.toList.map kq = A) {listed : Array Bool} {L : List Nat} (hs : listed.size = ops.size) (hl : ∀ j, j < ops.size → bB listed j = inL L j) (hlt : ∀ i o, ops.toList[i]? = some o → ∀ e ∈ kq o, e < i) {i : Nat} : i ∈ Region.ready .any ops listed ↔ vb A L i = true := by
 have hlen : A.length = ops.size := by rw [← hA]; simp
 rw [fA hs]
 unfold vb
 simp only [Bool.and_eq_true, Bool.not_eq_true', List.all_eq_true, hlen]
 constructor
 ·rintro ⟨h1, h2, h3⟩
  have hget : ops.toList[i]? = some ops[i] := by simp [h1]
  refine ⟨⟨Nat.ble_eq_true_of_le h1, by rw [← hl i h1]; exact h2⟩, fun e he => ?_⟩
  have he' : e ∈ kq ops[i] := by
   rw [← hA, List.getD_eq_getElem?_getD, List.getElem?_map, hget] at he
   exact he
  have hei := hlt i _ hget e he'
  rw [← hl e (by omega)]
  exact h3 e (by rw [bm hget]; exact he')
 ·rintro ⟨⟨h1, h2⟩, h3⟩
  have h1 : i < ops.size := Nat.le_of_ble_eq_true h1
  have hget : ops.toList[i]? = some ops[i] := by simp [h1]
  refine ⟨h1, by rw [hl i h1]; exact h2, fun e he => ?_⟩
  rw [bm hget] at he
  have hei := hlt i _ hget e he
  rw [hl e (by omega)]
  refine h3 e ?_
  rw [← hA, List.getD_eq_getElem?_getD, List.getElem?_map, hget]
  exact he
theorem DY (he : E.Ok) {K : ASt → Prop} {Q : Exit → Act → World → Prop} {A : List (List Nat)} (ps : List js) (R : (Nat → Prop) → World → Value → Prop) (C : World → Prop) (hC1 : ∀ w', C w' → xH ps w') (hCz : ∀ Z w', xH ps w' → R Z w' (.bool true) → C w') (hA : ops.toList.map kq = A) (hlt : ∀ i o, ops.toList[i]? = some o → ∀ e ∈ kq o, e < i) (hsel : E8 ops.toList = true)
  (hQ : ∀ a w, (∃ st', cL E.W S st' a w ∧ K st') → Q .normal a w) (hP : ∀ c a w, ¬ Q (.panic c) a w) :
  ∀ (s : Sch) (L : List Nat) (fuel : Nat) (listed : Array Bool) (st : ASt) (a : Act) (w : World), listed.size = ops.size → (∀ j, j < ops.size → bB listed j = inL L j) → gX ops.toList A s L = true → iC (bB listed) ops.size ≤ fuel → cL E.W S st a w → C w →
   tT E S ps R ops.toList s st K → wpAnyH E.P .any ops Q C fuel listed a w := by
 have hlen : A.length = ops.size := by rw [← hA]; simp
 have hse : ∀ (j : Nat) (o : Oper) cs b, ops[j]? = some o → o.op ≠ .select cs b := by
  intro j o cs b ho e
  have := List.all_eq_true.1 hsel o (by have := Array.mem_of_getElem? ho; simpa using this)
  rw [e] at this
  cases this
 intro s
 have step : ∀ (i : Nat) (s : Sch) (L : List Nat) (fuel : Nat) (listed : Array Bool) (st : ASt) (a : Act) (w : World), listed.size = ops.size → (∀ j, j < ops.size → bB listed j = inL L j) → vb A L i = true → iC (bB listed) ops.size ≤ fuel + 1 →
   (∀ (L : List Nat) (fuel : Nat) (listed : Array Bool) (st : ASt) (a : Act) (w : World), listed.size = ops.size → (∀ j, j < ops.size → bB listed j = inL L j) → gX ops.toList A s L = true → iC (bB listed) ops.size ≤ fuel → cL E.W S st a w → C w → tT E S ps R ops.toList s st K → wpAnyH E.P .any ops Q C fuel listed a w) →
   gX ops.toList A s (i :: L) = true → i < ops.size ∧ bB listed i = false ∧ ∀ (st : ASt) (a : Act) (w : World), cL E.W S st a w → C w → tT E S ps R ops.toList s st K → wpAnyH E.P .any ops Q C fuel (listed.setIfInBounds i true) a w := by
  intro i s L fuel listed st a w hs hl hr hf ih hok
  have hm := (fa hA hs hl hlt).2 hr
  obtain ⟨h1, h2, _⟩ := (fA hs).1 hm
  refine ⟨h1, h2, fun st a w h hS hk => ih (i :: L) fuel _ st a w (by simpa using hs) (fun j hj => ?_) hok ?_ h hS hk⟩
  ·rw [gU (by omega)]
   simp only [hl j hj, inL, List.contains_cons]
   cases hb : Nat.beq j i with
   | true => have := Nat.eq_of_beq_eq_true hb; subst this; simp
   | false =>
    have : ¬ j = i := Nat.ne_of_beq_eq_false hb
    simp [this]
  ·rw [gU (by omega)]
   have := (oB h2 (n := ops.size)).2 h1
   omega
 have pos : ∀ {L : List Nat} {fuel : Nat} {listed : Array Bool} {i : Nat}, listed.size = ops.size → (∀ j, j < ops.size → bB listed j = inL L j) → vb A L i = true → iC (bB listed) ops.size ≤ fuel → ∃ f, fuel = f + 1 := by
  intro L fuel listed i hs hl hr hf
  obtain ⟨h1, h2, _⟩ := (fA hs).1 ((fa hA hs hl hlt).2 hr)
  have := (oB h2 (n := ops.size)).2 h1
  exact ⟨fuel - 1, by omega⟩
 have pins : ∀ {st : ASt} {a : Act} {w : World} {X : Prop}, cL E.W S st a w → hI R ps st X → C w ∧ X := by
  intro st a w X h hk
  obtain ⟨Z, ρ, h⟩ := h
  have key : ∀ qs : List js, hI R qs st X → (xH qs w ∧ R Z w (.bool true)) ∧ X := by
   intro qs hk
   induction qs with
   | nil =>
    obtain ⟨o, ho, rfl, hk⟩ := bH (show aOb st.ob 9970 _ from hk)
    refine ⟨⟨fun p hp => (by cases hp), ?_⟩, hk⟩
    have := (show cw Z w ρ 9970 (zO R) from h.ws.obj 9970 _ ho).2.2 0 _ _ rfl rfl
    cases this with
    | one _ _ hx =>
     cases (show bC Z w (.x R) (.bool true) from hx) with
     | x _ _ _ hR => exact hR Z w (fun _ h => h) fun _ _ => rfl
   | cons p r ih =>
    obtain ⟨o, ho, rfl, hk⟩ := bH (show aOb st.ob p.id _ from hk)
    obtain ⟨⟨h1, h1'⟩, h2⟩ := ih hk
    refine ⟨⟨fun q hq => ?_, h1'⟩, h2⟩
    rcases List.mem_cons.1 hq with rfl | hq
    ·obtain ⟨b', hb', hlt, hq⟩ := (show cw Z w ρ q.id (.any (AG q.b q.us q.t)) from h.ws.obj q.id _ ho)
     exact (hq w rfl).2
    ·exact h1 q hq
  obtain ⟨⟨h1, h2⟩, h3⟩ := key ps hk
  exact ⟨hCz Z w h1 h2, h3⟩
 have run1 : ∀ {i : Nat} {st : ASt} {a : Act} {w : World} {X : ASt → Prop} {Y : Act → World → Prop}, i < ops.size → cL E.W S st a w → tS E S ops.toList i st X → (∀ st a w, cL E.W S st a w → X st → Y a w) → wpOp E.P ops Q i Y a w := by
  intro i st a w X Y hi h hk hY
  obtain ⟨o, ho, hk⟩ := cA hk
  have ho' : ops[i]? = some o := by simpa using ho
  unfold wpOp
  rw [ho']
  obtain ⟨Z, ρ, h⟩ := h
  simp only
  rcases gj h hk with ⟨hw, st', hs', hk⟩ | ⟨hw, st', hs', hk⟩
  ·simp only [Array.toArray_toList] at hw
   simp only [hw, if_true]
   refine .inl (Oper.wp_mono (fun a' w' h' => ?_) (oy he hs' hk Q))
   obtain ⟨st2, h2, hk2⟩ := h'
   exact hY st2 a' w' h2 hk2
  ·simp only [Array.toArray_toList] at hw
   simp only [hw, Bool.false_eq_true, if_false]
   have := hs'.put o.dst (x := .one .und) (v := undef) (.one _ _ (show eh Z w ρ .und undef from rfl))
   exact hY _ _ w ⟨Z, ρ, this⟩ (cY hk)
 induction s with
 | done =>
  intro L fuel listed st a w hs hl hok hf h hS hk
  refine wpAnyH_done ?_ (hQ a w ⟨st, h, hk⟩) fuel
  rw [List.eq_nil_iff_forall_not_mem]
  intro i hi
  obtain ⟨h1, h2, _⟩ := (fA hs).1 hi
  have := List.all_eq_true.1 hok i (List.mem_range.2 (by omega))
  rw [hl i h1, this] at h2
  cases h2
 | take i s ih =>
  intro L fuel listed st a w hs hl hok hf h hS hk
  simp only [gX, Bool.and_eq_true] at hok
  obtain ⟨⟨hr, hm⟩, hok⟩ := hok
  obtain ⟨fuel, rfl⟩ := pos hs hl hr hf
  obtain ⟨h1, h2, next⟩ := step i s L fuel listed st a w hs hl hr hf ih hok
  have hio : ops[i]? = some ops[i] := Array.getElem?_eq_getElem h1
  rw [show ops.toList[i]? = some ops[i] by simp [h1]] at hm
  simp only [List.all_eq_true] at hm
  have hap := hm
  obtain ⟨o, ho, hk⟩ := cA (show jw ops.toList i _ from hk)
  have : o = ops[i] := by
   rw [show ops.toList[i]? = some ops[i] by simp [h1]] at ho
   injection ho with ho
   exact ho.symm
  subst this
  have first : ∀ (v : Value), YieldsIf E.P ops C ops[i] v a → wpAnyH E.P .any ops Q C fuel (listed.setIfInBounds i true) (a.put ops[i].dst v) w → wpAnyH E.P .any ops Q C (fuel + 1) listed a w := by
   intro v hy hw
   refine wpAnyH_first hio hse (fun c a w hq => (hP _ _ _ hq).elim) fuel listed a w (fun j oj hj hji hun hno => ?_) ((fa hA hs hl hlt).2 hr) hy hS hw
   have hjs : j < ops.size := (Array.getElem?_eq_some_iff.1 hj).1
   have hjl : ops.toList[j]? = some oj := by simpa using hj
   have := hap j (List.mem_range.2 (by omega))
   rw [hjl] at this
   simp only [Bool.or_eq_true] at this
   rcases this with ((h3 | h3) | h3) | h3
   ·exact absurd (Nat.eq_of_beq_eq_true h3) hji
   ·rw [← hl j hjs] at h3
    simp only [bB, Array.getD_eq_getD_getElem?] at h3 hun
    rw [Array.getElem?_eq_getElem (by omega)] at h3 hun
    simp only [Option.getD_some] at h3 hun
    rw [h3] at hun
    cases hun
   ·exfalso
    have h4 : i ∈ kq oj := by
     rw [← hA, List.getD_eq_getElem?_getD, List.getElem?_map, hjl] at h3
     simpa [inL] using h3
    obtain ⟨e', he', e2⟩ := List.mem_map.1 h4
    obtain ⟨hm, hb⟩ := List.mem_filter.1 he'
    exact hno e' (by simpa using hm) hb e2
   ·simpa using h3
  obtain ⟨Z, ρ, h⟩ := h
  rcases gj h hk with ⟨hw, st', hs', hk⟩ | ⟨hw, st', hs', hk⟩
  ·simp only [Array.toArray_toList] at hw
   obtain ⟨x, v, hx, hrun, hk⟩ := AH he hs' hC1 (by simp) hk
   exact first v (.inl ⟨hw, hrun⟩) (next _ _ w ⟨Z, ρ, hs'.put ops[i].dst hx⟩ hS (cY hk))
  ·simp only [Array.toArray_toList] at hw
   have := hs'.put ops[i].dst (x := .one .und) (v := undef) (.one _ _ (show eh Z w ρ .und undef from rfl))
   exact first undef (.inr ⟨hw, rfl⟩) (next _ _ w ⟨Z, ρ, this⟩ hS (cY hk))
 | one i s ih =>
  intro L fuel listed st a w hs hl hok hf h hS hk
  simp only [gX, Bool.and_eq_true, List.all_eq_true] at hok
  obtain ⟨⟨hr, hm⟩, hok⟩ := hok
  obtain ⟨fuel, rfl⟩ := pos hs hl hr hf
  obtain ⟨h1, h2, next⟩ := step i s L fuel listed st a w hs hl hr hf ih hok
  refine ⟨fun h0 => (by have := (fa hA hs hl hlt).2 hr; rw [h0] at this; cases this), fun j hj => ?_⟩
  have hj' := (fa hA hs hl hlt).1 hj
  have hjs := ((fA hs).1 hj).1
  have hji : j = i := by
   have := hm j (List.mem_range.2 (by omega))
   simp only [Bool.or_eq_true, Bool.not_eq_true'] at this
   rcases this with h3 | h3
   ·exact Nat.eq_of_beq_eq_true h3
   ·rw [h3] at hj'; cases hj'
  subst hji
  exact run1 h1 h hk fun st a w h hk => by obtain ⟨h5, h6⟩ := pins h hk; exact ⟨h5, next st a w h h5 h6⟩
 | two i s k t ihs iht =>
  intro L fuel listed st a w hs hl hok hf h hS hk
  simp only [gX, Bool.and_eq_true, List.all_eq_true] at hok
  obtain ⟨⟨⟨⟨hr, hr2⟩, hm⟩, hok⟩, hok2⟩ := hok
  obtain ⟨fuel, rfl⟩ := pos hs hl hr hf
  obtain ⟨h1, h2, next⟩ := step i s L fuel listed st a w hs hl hr hf ihs hok
  obtain ⟨h3, h4, next2⟩ := step k t L fuel listed st a w hs hl hr2 hf iht hok2
  refine ⟨fun h0 => (by have := (fa hA hs hl hlt).2 hr; rw [h0] at this; cases this), fun j hj => ?_⟩
  have hj' := (fa hA hs hl hlt).1 hj
  have hjs := ((fA hs).1 hj).1
  have hji : j = i ∨ j = k := by
   have := hm j (List.mem_range.2 (by omega))
   simp only [Bool.or_eq_true, Bool.not_eq_true'] at this
   rcases this with (h3 | h3) | h3
   ·exact .inl (Nat.eq_of_beq_eq_true h3)
   ·exact .inr (Nat.eq_of_beq_eq_true h3)
   ·rw [h3] at hj'; cases hj'
  rcases hji with rfl | rfl
  ·exact run1 h1 h hk.l fun st a w h hk => by obtain ⟨h5, h6⟩ := pins h hk; exact ⟨h5, next st a w h h5 h6⟩
  ·exact run1 h3 h hk.r fun st a w h hk => by obtain ⟨h5, h6⟩ := pins h hk; exact ⟨h5, next2 st a w h h5 h6⟩
 | three i s k t m u ihs iht ihu =>
  intro L fuel listed st a w hs hl hok hf h hS hk
  simp only [gX, Bool.and_eq_true, List.all_eq_true] at hok
  obtain ⟨⟨⟨⟨⟨⟨hr, hr2⟩, hr3⟩, hm⟩, hok⟩, hok2⟩, hok3⟩ := hok
  obtain ⟨fuel, rfl⟩ := pos hs hl hr hf
  obtain ⟨h1, h2, next⟩ := step i s L fuel listed st a w hs hl hr hf ihs hok
  obtain ⟨h3, h4, next2⟩ := step k t L fuel listed st a w hs hl hr2 hf iht hok2
  obtain ⟨h5, h6, next3⟩ := step m u L fuel listed st a w hs hl hr3 hf ihu hok3
  refine ⟨fun h0 => (by have := (fa hA hs hl hlt).2 hr; rw [h0] at this; cases this), fun j hj => ?_⟩
  have hj' := (fa hA hs hl hlt).1 hj
  have hjs := ((fA hs).1 hj).1
  have hji : j = i ∨ j = k ∨ j = m := by
   have := hm j (List.mem_range.2 (by omega))
   simp only [Bool.or_eq_true, Bool.not_eq_true'] at this
   rcases this with ((h3 | h3) | h3) | h3
   ·exact .inl (Nat.eq_of_beq_eq_true h3)
   ·exact .inr (.inl (Nat.eq_of_beq_eq_true h3))
   ·exact .inr (.inr (Nat.eq_of_beq_eq_true h3))
   ·rw [h3] at hj'; cases hj'
  rcases hji with rfl | rfl | rfl
  ·exact run1 h1 h hk.l fun st a w h hk => by obtain ⟨h5, h6⟩ := pins h hk; exact ⟨h5, next st a w h h5 h6⟩
  ·exact run1 h3 h hk.r.l fun st a w h hk => by obtain ⟨h5, h6⟩ := pins h hk; exact ⟨h5, next2 st a w h h5 h6⟩
  ·exact run1 h5 h hk.r.r fun st a w h hk => by obtain ⟨h5, h6⟩ := pins h hk; exact ⟨h5, next3 st a w h h5 h6⟩
theorem Gy (he : E.Ok) {K : ASt → Prop} {Q : Exit → Act → World → Prop} {A : List (List Nat)} (ps : List js) (R : (Nat → Prop) → World → Value → Prop) (C : World → Prop) (hC1 : ∀ w', C w' → xH ps w') (hCz : ∀ Z w', xH ps w' → R Z w' (.bool true) → C w') (hA : ops.toList.map kq = A) (hlt : ∀ i o, ops.toList[i]? = some o → ∀ e ∈ kq o, e < i) (hsel : E8 ops.toList = true)
  (hQ : ∀ a w, (∃ st', cL E.W S st' a w ∧ K st') → Q .normal a w) (hP : ∀ c a w, ¬ Q (.panic c) a w) {Z : Nat → Prop} {ρ : Nat → Value} {w : World} (hC2 : ∀ w', C w' → ∀ b, Z b → w'.heap[b]? = w.heap[b]?) (hS : C w) :
  ∀ (s : Sch) (L : List Nat) (fuel : Nat) (listed : Array Bool) (st : ASt) (a : Act), listed.size = ops.size → (∀ j, j < ops.size → bB listed j = inL L j) → gX ops.toList A s L = true → iC (bB listed) ops.size ≤ fuel → Sim E.W S Z ρ st a w →
   CN E S ps R ops.toList s st K → wpAnyH E.P .any ops Q C fuel listed a w := by
 have hlen : A.length = ops.size := by rw [← hA]; simp
 have main := fun s L fuel listed st a w => DY (S := S) he ps R C hC1 hCz hA hlt hsel hQ hP s L fuel listed st a w
 have hse : ∀ (j : Nat) (o : Oper) cs b, ops[j]? = some o → o.op ≠ .select cs b := by
  intro j o cs b ho e
  have := List.all_eq_true.1 hsel o (by have := Array.mem_of_getElem? ho; simpa using this)
  rw [e] at this
  cases this
 intro s
 induction s with
 | take i s ih =>
  intro L fuel listed st a hs hl hok hf h hk
  simp only [gX, Bool.and_eq_true] at hok
  obtain ⟨⟨hr, hm⟩, hok⟩ := hok
  have hrd := (fa hA hs hl hlt).2 hr
  obtain ⟨h1, h2, _⟩ := (fA hs).1 hrd
  have hcu := (oB h2 (n := ops.size)).2 h1
  obtain ⟨fuel, rfl⟩ : ∃ f, fuel = f + 1 := ⟨fuel - 1, by omega⟩
  have hio : ops[i]? = some ops[i] := Array.getElem?_eq_getElem h1
  rw [show ops.toList[i]? = some ops[i] by simp [h1]] at hm
  simp only [List.all_eq_true] at hm
  obtain ⟨o, ho, hk⟩ := cA (show jw ops.toList i _ from hk)
  have : o = ops[i] := by
   rw [show ops.toList[i]? = some ops[i] by simp [h1]] at ho
   injection ho with ho
   exact ho.symm
  subst this
  have next : ∀ (st : ASt) (a : Act), Sim E.W S Z ρ st a w → CN E S ps R ops.toList s st K → wpAnyH E.P .any ops Q C fuel (listed.setIfInBounds i true) a w := fun st a h hk => ih (i :: L) fuel _ st a (by simpa using hs) (fun j hj => by
   rw [gU (by omega)]
   simp only [hl j hj, inL, List.contains_cons]
   cases hb : Nat.beq j i with
   | true => have := Nat.eq_of_beq_eq_true hb; subst this; simp
   | false =>
    have : ¬ j = i := Nat.ne_of_beq_eq_false hb
    simp [this]) hok (by rw [gU (by omega)]; omega) h hk
  have first : ∀ (v : Value), YieldsIf E.P ops C ops[i] v a → wpAnyH E.P .any ops Q C fuel (listed.setIfInBounds i true) (a.put ops[i].dst v) w → wpAnyH E.P .any ops Q C (fuel + 1) listed a w := by
   intro v hy hw
   refine wpAnyH_first hio hse (fun c a w hq => (hP _ _ _ hq).elim) fuel listed a w (fun j oj hj hji hun hno => ?_) hrd hy hS hw
   have hjs : j < ops.size := (Array.getElem?_eq_some_iff.1 hj).1
   have hjl : ops.toList[j]? = some oj := by simpa using hj
   have := hm j (List.mem_range.2 (by omega))
   rw [hjl] at this
   simp only [Bool.or_eq_true] at this
   rcases this with ((h3 | h3) | h3) | h3
   ·exact absurd (Nat.eq_of_beq_eq_true h3) hji
   ·rw [← hl j hjs] at h3
    simp only [bB, Array.getD_eq_getD_getElem?] at h3 hun
    rw [Array.getElem?_eq_getElem (by omega)] at h3 hun
    simp only [Option.getD_some] at h3 hun
    rw [h3] at hun
    cases hun
   ·exfalso
    have h4 : i ∈ kq oj := by
     rw [← hA, List.getD_eq_getElem?_getD, List.getElem?_map, hjl] at h3
     simpa [inL] using h3
    obtain ⟨e', he', e2⟩ := List.mem_map.1 h4
    obtain ⟨hm, hb⟩ := List.mem_filter.1 he'
    exact hno e' (by simpa using hm) hb e2
   ·simpa using h3
  rcases gj h hk with ⟨hw, st', hs', hk⟩ | ⟨hw, st', hs', hk⟩
  ·simp only [Array.toArray_toList] at hw
   obtain ⟨x, v, hx, hrun, hk⟩ := AH he hs' hC1 (fun _ => hC2) hk
   exact first v (.inl ⟨hw, hrun⟩) (next _ _ (hs'.put ops[i].dst hx) (cY hk))
  ·simp only [Array.toArray_toList] at hw
   have := hs'.put ops[i].dst (x := .one .und) (v := undef) (.one _ _ (show eh Z w ρ .und undef from rfl))
   exact first undef (.inr ⟨hw, rfl⟩) (next _ _ this (cY hk))
 | done => exact fun L fuel listed st a hs hl hok hf h hk => main _ L fuel listed st a w hs hl hok hf ⟨Z, ρ, h⟩ hS hk
 | one i s _ => exact fun L fuel listed st a hs hl hok hf h hk => main _ L fuel listed st a w hs hl hok hf ⟨Z, ρ, h⟩ hS hk
 | two i s j t _ _ => exact fun L fuel listed st a hs hl hok hf h hk => main _ L fuel listed st a w hs hl hok hf ⟨Z, ρ, h⟩ hS hk
 | three i s j t k u _ _ _ => exact fun L fuel listed st a hs hl hok hf h hk => main _ L fuel listed st a w hs hl hok hf ⟨Z, ρ, h⟩ hS hk
def H2 (A : List (List Nat)) : Bool := (List.range A.length).all fun i => (A.getD i []).all fun e => Nat.blt e i
def HJ (E : ba) (S : bt) : List (Nat × Nat) → List js → ASt → (List js → ASt → Prop) → Prop
 | [], ps, st, K => K ps st
 | (id, fid) :: r, ps, st, K => aOb st.ob id fun o => match o with
  | .cells t cs => match cs.all (pF fid) with
   | true => ∀ (b : Nat) (us : List Value), match st with
    | ⟨tm, ob⟩ => dX id (.any (AG b us t)) ob fun ob => sT ⟨tm, ob⟩ fid (.frame (cs.map .one) us) fun st => HJ E S r (⟨id, fid, b, us, t⟩ :: ps) st K
   | false => False
  | _ => False
def xS : List js → ASt → (ASt → Prop) → Prop
 | [], st, K => K st
 | p :: r, st, K => match st with
  | ⟨tm, ob⟩ => aOb ob p.id fun o => And (o = .any (AG p.b p.us p.t)) (aOb ob p.fid fun o2 => match o2 with
   | .frame vs us => And (us = p.us) (CK vs fun cs => dX p.id (.cells p.t cs) ob fun ob => xS r ⟨tm, ob⟩ K)
   | _ => False)
theorem y4 {K : List js → ASt → Prop} {Z : Nat → Prop} {a : Act} {w : World} : ∀ {l : List (Nat × Nat)} {ps : List js} {st : ASt} {ρ : Nat → Value}, Sim E.W S Z ρ st a w → xH ps w → HJ E S l ps st K → ∃ ps' st' ρ', Sim E.W S Z ρ' st' a w ∧ xH ps' w ∧ K ps' st'
 | [], ps, st, ρ, h, hS, hk => ⟨ps, st, ρ, h, hS, hk⟩
 | (id, fid) :: r, ps, ⟨tm, ob⟩, ρ, h, hS, hk => by
  obtain ⟨o, ho, hk⟩ := bH (show aOb ob id _ from hk)
  split at hk
  case h_2 => exact hk.elim
  rename_i t cs
  split at hk
  case h_2 => exact hk.elim
  rename_i hno
  obtain ⟨b, us, hp, hg, hl, hc⟩ := (show cw Z w ρ id (.cells t cs) from h.ws.obj id _ ho)
  have hk := eS (bX (hk b us))
  have hlt : b < w.heap.size := (Array.getElem?_eq_some_iff.1 hg).1
  have h1 := h.upd id (.cells t cs) (.any (AG b us t)) (g := b) ho (by rw [hp]; rfl) (World.grownBy.refl w _) ⟨b, by rw [hp]; rfl, hlt, fun w' hw => ⟨hp, by rw [hw]; exact hg⟩⟩
  have h2 := h1.renew fid undef (.frame (cs.map .one) us) (row := none) (World.grownBy.refl w _) (by simp) (fun b hb => by cases hb) ⟨by simp, by simp [hl], fun i x u hx hu => by
   rw [List.getElem?_map] at hx
   obtain ⟨c, hcx, rfl⟩ := Option.map_eq_some_iff.1 hx
   have hkc : eY fid c = c := ll (List.all_eq_true.1 hno c (List.mem_of_getElem? hcx))
   have := it (id := fid) (y := undef) (hc i c u hcx hu)
   rw [hkc] at this
   exact .one _ _ this⟩
  exact y4 h2 (fun p hp => by
   rcases List.mem_cons.1 hp with rfl | hp
   ·exact hg
   ·exact hS p hp) hk
theorem tV {K : ASt → Prop} {a : Act} {w : World} : ∀ {ps : List js} {st : ASt}, cL E.W S st a w → xS ps st K → ∃ st', cL E.W S st' a w ∧ K st'
 | [], st, h, hk => ⟨st, h, hk⟩
 | p :: r, ⟨tm, ob⟩, ⟨Z, ρ, h⟩, hk => by
  obtain ⟨o, ho, rfl, hk⟩ := bH (show aOb ob p.id _ from hk)
  obtain ⟨o2, ho2, hk⟩ := bH hk
  cases o2 with
  | frame vs us => ?_
  | _ => exact hk.elim
  simp only at hk
  obtain ⟨e1, hk1⟩ := hk
  subst e1
  obtain ⟨cs, e0, hk⟩ := rv hk1
  subst e0
  obtain ⟨b', hb', hlt, hq⟩ := (show cw Z w ρ p.id (.any (AG p.b p.us p.t)) from h.ws.obj p.id _ ho)
  obtain ⟨hp, hg⟩ := hq w rfl
  obtain ⟨_, hfl, hfr⟩ := (show cw Z w ρ p.fid (.frame (cs.map .one) p.us) from h.ws.obj p.fid _ ho2)
  have h1 := h.upd p.id _ (.cells p.t cs) (g := p.b) ho (by rw [hp]; rfl) (World.grownBy.refl w _) ⟨p.b, p.us, hp, hg, by simpa using hfl, fun i c u h1 h2 => by
   have := hfr i (.one c) u (by rw [List.getElem?_map, h1]; rfl) h2
   cases this with | one _ _ h => exact h⟩
  exact tV ⟨Z, ρ, h1⟩ (bX hk)
theorem AWP.drawT (he : E.Ok) {K : Exit → ASt → Prop} (id : Nat) {st : ASt} (s : Sch) (l : List (Nat × Nat)) (A : List (List Nat)) (hA : ops.toList.map kq = A) (hlt : H2 A = true) (hsel : E8 ops.toList = true) (hok : gX ops.toList A s [] = true)
  (h : ∀ R, sT st 9970 (zO R) (fun st => HJ E S l [] st fun ps st => CN E S ps R ops.toList s st fun st => xS ps st (K .normal))) : AWP E S (.region id ops true) K st := by
 refine ⟨fun a w hs => wp_mono (Q := fun e a' w' => e = .normal ∧ ∃ st', cL E.W S st' a' w' ∧ K .normal st') (wp_region_any he.mixed ?_) fun e a' w' h' => ?_⟩
 ·have hg : w.grownBy { w with drawn := w.drawn + 1 } none := ⟨rfl, rfl, rfl, Nat.le_refl _, fun b hb _ => rfl⟩
  obtain ⟨Z, ρ, hs⟩ := hs
  let R : (Nat → Prop) → World → Value → Prop := fun _ wx _ => ∀ b, Z b → wx.heap[b]? = w.heap[b]?
  have h0 := hs.grow hg (fun _ h => h) fun _ h => .inl h
  have h1 := h0.renew 9970 undef (zO R) (row := none) (World.grownBy.refl _ _) (by simp) (fun b hb => by cases hb) ⟨by simp, rfl, fun i x u hx hu => by
   cases i with
   | zero =>
    simp at hx hu
    subst hx hu
    exact .one _ _ (show bC Z _ (.x R) (.bool true) from .x _ _ rfl fun Z' w' hz hb b hZ => hb b hZ)
   | succ i => simp at hx⟩
  obtain ⟨ps, st1, ρ1, hs1, hS, hk⟩ := y4 h1 (fun p hp => (by cases hp)) (eS (h R))
  refine wpAny_of_held (S := fun w' => xH ps w' ∧ ∀ b, Z b → w'.heap[b]? = w.heap[b]?) _ _ _ _ (Gy (K := fun st => xS ps st (K .normal)) he ps R _ (fun w' h => h.1) (fun Zx w' h1 h2 => ⟨h1, h2⟩) hA (fun i o ho e hea => ?_) hsel (fun a w hz => ⟨rfl, (by obtain ⟨st', h1, h2⟩ := hz; exact tV h1 h2)⟩) (fun c a w hq => by cases hq.1) (fun w' h => h.2) ⟨hS, fun b hb => rfl⟩ s [] ops.size _ st1 a (by simp) (fun j _ => ?_) hok ?_ hs1 hk)
  ·have hi : i < A.length := by rw [← hA, List.length_map]; exact (List.getElem?_eq_some_iff.1 ho).1
   have h1 := List.all_eq_true.1 hlt i (List.mem_range.2 hi)
   rw [← hA, List.getD_eq_getElem?_getD, List.getElem?_map, ho] at h1
   have := List.all_eq_true.1 h1 e hea
   exact Nat.le_of_ble_eq_true this
  ·simp [bB, inL, Array.getD_eq_getD_getElem?, Array.getElem?_replicate]
   split <;> rfl
  ·have : ∀ (lf : Nat → Bool) n, iC lf n ≤ n := fun lf n => by
    induction n with
    | zero => exact Nat.le_refl _
    | succ n ih => simp only [iC]; split <;> omega
   exact this _ _
 ·obtain ⟨rfl, h'⟩ := h'
  exact h'
end
end Go.Proofs.YtcmknngafflcnaaGreat
namespace Go.Proofs.YtcmknngafflcnaaGreat
open Go.RowKit
theorem bls {xs : List (List AD)} (h : ∀ x ∈ xs, x.all AD.isBl = true := by (intro y hy; obtain ⟨a, _, rfl⟩ := List.mem_map.1 hy; rfl)) : ∀ x ∈ xs, x.all AD.isBl = true := h
structure fh (s : Nat) (xs : List (List AD)) (K : List (List AD) → List (Nat × Nat) → Prop) : Prop where
 h : ((∀ x ∈ xs, x.all AD.isBl = true) ∧ K xs []) ∨ ∃ (lo hi : Nat) (ys : List (List AD)), Fam lo hi xs.flatten ys.flatten ∧ ys.length = xs.length ∧ (∀ y ∈ ys, y.length = s) ∧ K ys [(lo, hi)]
theorem fh.bl {s : Nat} {xs : List (List AD)} {K : List (List AD) → List (Nat × Nat) → Prop} (hb : ∀ x ∈ xs, x.all AD.isBl = true) (hk : K xs []) : fh s xs K := ⟨.inl ⟨hb, hk⟩⟩
theorem fh.fam {s : Nat} {xs ys : List (List AD)} {K : List (List AD) → List (Nat × Nat) → Prop} {lo hi : Nat} (F : Fam lo hi xs.flatten ys.flatten) (hl : ys.length = xs.length) (hs : ∀ y ∈ ys, y.length = s) (hk : K ys [(lo, hi)]) : fh s xs K := ⟨.inr ⟨lo, hi, ys, F, hl, hs, hk⟩⟩
def tD (ob : List (Nat × AO)) : List AC → List Nat → (List AD → List (Option (List (List AD))) → List (Nat × Nat) → Prop) → Prop
 | [], _, K => K [] [] []
 | .own id :: r, L, K => match inL L id with
  | true => False
  | false => aOb ob id fun o => match o with
   | .row _ s xs => fh s xs fun ys iv => tD ob r (id :: L) fun cs p IV => K cs (some ys :: p) (iv ++ IV)
   | _ => False
 | .d x :: r, L, K => tD ob r L fun cs p IV => K (x :: cs) (none :: p) IV
 | .nil :: r, L, K => tD ob r L fun cs p IV => K (.sl [] :: cs) (none :: p) IV
 | _ :: _, _, _ => False
def ivD (a : Nat × Nat) : List (Nat × Nat) → Prop
 | [] => True
 | b :: r => (a.2 ≤ b.1 ∨ b.2 ≤ a.1) ∧ ivD a r
def ivs (n : Nat) : List (Nat × Nat) → Prop
 | [] => True
 | a :: r => n ≤ a.1 ∧ ivD a r ∧ ivs n r
def tq (Z : Nat → Prop) (IV : List (Nat × Nat)) (b : Nat) : Prop := ∃ a ∈ IV, a.1 ≤ b ∧ b < a.2 ∧ Z b
theorem yo {a : Nat × Nat} {Z : Nat → Prop} {b : Nat} (h1 : a.1 ≤ b) (h2 : b < a.2) : ∀ {IV : List (Nat × Nat)}, ivD a IV → ¬ tq Z IV b
 | [], _, ⟨x, hx, _⟩ => by cases hx
 | c :: r, hd, ⟨x, hx, e1, e2, hz⟩ => by
  rcases List.mem_cons.1 hx with rfl | hx
  ·rcases hd.1 with h | h <;> omega
  ·exact yo h1 h2 hd.2 ⟨x, hx, e1, e2, hz⟩
def zY : List (Option (List (List AD))) → List AD → List AD
 | [], _ => []
 | some xs :: p, ds => .sl xs :: zY p ds
 | none :: p, d :: ds => d :: zY p ds
 | none :: _, [] => []
section
variable {E : ba} {S : bt} {Z : Nat → Prop} {ρ : Nat → Value} {w : World} {ob : List (Nat × AO)}
theorem xc (h : WS E.W S Z w ρ ob) {id s lo hi : Nat} {e : TypeId} {xs ys : List (List AD)} (ho : bg ob id = some (.row e s xs)) (hf : Fam lo hi xs.flatten ys.flatten) (hyl : ys.length = xs.length) (hys : ∀ y ∈ ys, y.length = s) : bb w (fun b => aZ (ρ id) = some b ∨ (lo ≤ b ∧ b < hi ∧ Z b)) (.sl ys) (ρ id) := by
 obtain ⟨us, h0, hl, hxs, hus, hown, hd⟩ := h.obj id _ ho
 have hlx : xs.flatten.length = xs.length * s := gq hxs
 obtain ⟨lF, Q, q, eQ, rQ⟩ := hf.2 Z w us.flatten (by rw [gq hus, hlx, hl]) fun i c u hc hu => by
  have hi : i < xs.length * s := by rw [← hlx]; exact (List.getElem?_eq_some_iff.1 hc).1
  have hs : 0 < s := h0
  have hdm : i = i / s * s + i % s := (Nat.div_add_mod' i s).symm
  have hr : i % s < s := Nat.mod_lt _ hs
  have hk : i / s < xs.length := Nat.div_lt_of_lt_mul (by rw [Nat.mul_comm]; exact hi)
  rw [hdm, ce hxs (List.getElem?_eq_getElem hk) hr] at hc
  rw [hdm, ce hus (List.getElem?_eq_getElem (by omega)) hr] at hu
  exact hd _ _ _ _ c u (List.getElem?_eq_getElem hk) (List.getElem?_eq_getElem (by omega)) hc hu
 refine .sl _ ys e s us _ Q h0 (by rw [hl, hyl]) hys hus (by rw [hyl]; exact hown) (fun b hb => ?_) (fun i b hb => .inr (q i b hb)) eQ rQ
 exact ⟨.inl hb, fun i hq => (h.mine id _ b ho hb).1 (q i b hq).2.2⟩
theorem CY {xs : List (List AD)} (h : ∀ x ∈ xs, x.all AD.isBl = true) : xs.flatten.all AD.isBl = true := by
 rw [List.all_eq_true]
 intro a ha
 obtain ⟨x, hx, hax⟩ := List.mem_flatten.1 ha
 exact List.all_eq_true.1 (h x hx) a hax
def Eq (ρ : Nat → Value) (ob : List (Nat × AO)) (L : List Nat) (b : Nat) : Prop := ∃ id o, inL L id = false ∧ bg ob id = some o ∧ aZ (ρ id) = some b
theorem qO {L : List Nat} {i j : Nat} (h : inL (i :: L) j = false) : inL L j = false ∧ j ≠ i := by
 simp only [inL, List.contains_cons, Bool.or_eq_false_iff, beq_eq_false_iff_ne] at h
 exact ⟨h.2, h.1⟩
theorem qC (h : WS E.W S Z w ρ ob) : ∀ {cs : List AC} {us : List Value} {L : List Nat} {K : List AD → List (Option (List (List AD))) → List (Nat × Nat) → Prop}, us.length = cs.length → (∀ (i : Nat) c u, cs[i]? = some c → us[i]? = some u → eh Z w ρ c u) → tD ob cs L K →
  ∃ cs' pat us' IV, K cs' pat IV ∧ us'.length = cs'.length ∧ (∀ (i : Nat) c u, cs'[i]? = some c → us'[i]? = some u → bC Z w c u) ∧ ∀ (n : Nat) (P : Nat → Prop) ds, ivs n IV → cb w P ds us' → (∀ b, P b → Z b ∧ ¬ tq Z IV b) → cb w (fun b => P b ∨ Eq ρ ob L b ∨ tq Z IV b) (zY pat ds) us
 | [], [], L, K, _, _, hk => ⟨[], [], [], [], hk, rfl, by simp, fun n P ds _ hf _ => by
   have : ds = [] := List.eq_nil_of_length_eq_zero (by simpa using hf.1.symm)
   subst this
   exact cb.nil⟩
 | [], _ :: _, _, _, hl, _, _ => by simp at hl
 | _ :: _, [], _, _, hl, _, _ => by simp at hl
 | c :: r, u :: us, L, K, hl, hr, hk => by
  have hl' : us.length = r.length := by simpa using hl
  have hr' : ∀ (i : Nat) c u, r[i]? = some c → us[i]? = some u → eh Z w ρ c u := fun i x y h1 h2 => hr (i + 1) x y (by simpa using h1) (by simpa using h2)
  have h0 : eh Z w ρ c u := hr 0 c u rfl rfl
  have data : ∀ x : AD, bC Z w x u → (tD ob r L fun cs p IV => K (x :: cs) (none :: p) IV) → ∃ cs' pat us' IV, K cs' pat IV ∧ us'.length = cs'.length ∧ (∀ (i : Nat) c u, cs'[i]? = some c → us'[i]? = some u → bC Z w c u) ∧ ∀ (n : Nat) (P : Nat → Prop) ds, ivs n IV → cb w P ds us' → (∀ b, P b → Z b ∧ ¬ tq Z IV b) → cb w (fun b => P b ∨ Eq ρ ob L b ∨ tq Z IV b) (zY pat ds) (u :: us) := fun x hx hk => by
   obtain ⟨cs', pat, us', IV, hK, h1, h2, h3⟩ := qC h hl' hr' hk
   refine ⟨x :: cs', none :: pat, u :: us', IV, hK, by simp [h1], fun i y v e1 e2 => ?_, fun n P ds hiv hf hP => ?_⟩
   ·cases i with
    | zero => simp at e1 e2; subst e1 e2; exact hx
    | succ i => exact h2 i y v (by simpa using e1) (by simpa using e2)
   ·cases ds with
    | nil => have := hf.1; simp at this
    | cons d ds =>
     obtain ⟨u1, u2, P1, P2, eu, dj, a1, a2, f1, f2⟩ := cb.split (d1 := [d]) (d2 := ds) hf
     have hu1 : u1 = [u] ∧ u2 = us' := by
      have := f1.1
      match u1, this with
      | [y], _ => injection eu with e1 e2; exact ⟨by rw [e1], e2.symm⟩
     obtain ⟨rfl, rfl⟩ := hu1
     have := cb.append (P := fun b => P b ∨ Eq ρ ob L b ∨ tq Z IV b) f1 (h3 n P2 ds hiv f2 fun b hb => hP b (a2 b hb)) (fun b q1 q2 => by
      rcases q2 with q2 | ⟨id, o, _, ho, hb⟩ | q2
      ·exact dj b q1 q2
      ·exact (h.mine id o b ho hb).1 (hP b (a1 b q1)).1
      ·exact (hP b (a1 b q1)).2 q2) (fun b q => .inl (a1 b q)) (fun b q => q.imp (a2 b) id)
     simpa [zY] using this
  cases c with
  | own id =>
   simp only [tD] at hk
   split at hk
   ·exact hk.elim
   ·rename_i hin
    obtain ⟨o, ho, hk⟩ := bH hk
    split at hk
    ·rename_i e s xs
     have hu : u = ρ id := h0.1
     subst hu
     rcases hk.h with ⟨hb, hk⟩ | ⟨lo, hi, ys, hF, hyl, hys, hk⟩
     ·obtain ⟨cs', pat, us', IV, hK, h1, h2, h3⟩ := qC h hl' hr' hk
      refine ⟨cs', some xs :: pat, us', IV, hK, h1, h2, fun n P ds hiv hf hP => ?_⟩
      have hxs := (h.obj id _ ho).choose_spec.2.2.1
      have hrel := xc (lo := 0) (hi := 0) h ho (Fam.blank (CY hb)) rfl hxs
      have := cb.append (P := fun b => P b ∨ Eq ρ ob L b ∨ tq Z IV b) (cb.one hrel) (h3 n P ds hiv hf hP) (fun b q1 q2 => by
       rcases q1 with q1 | q1
       ·rcases q2 with q2 | ⟨id2, o2, hin2, ho2, hb2⟩ | ⟨_, _, _, _, q2⟩
        ·exact (h.mine id _ b ho q1).1 (hP b q2).1
        ·exact h.sep id2 id o2 _ b ho2 ho (qO hin2).2 hb2 q1
        ·exact (h.mine id _ b ho q1).1 q2
       ·omega) (fun b q => by
       rcases q with q | q
       ·exact .inr (.inl ⟨id, _, hin, ho, q⟩)
       ·omega) (fun b q => q.imp (fun h => h) fun q => q.imp (fun ⟨id2, o2, a, b, c⟩ => ⟨id2, o2, (qO a).1, b, c⟩) fun h => h)
      simpa [zY] using this
     ·obtain ⟨cs', pat, us', IV, hK, h1, h2, h3⟩ := qC h hl' hr' hk
      refine ⟨cs', some ys :: pat, us', (lo, hi) :: IV, hK, h1, h2, fun n P ds hiv hf hP => ?_⟩
      have inr : ∀ b, tq Z IV b → tq Z ((lo, hi) :: IV) b := fun b ⟨a, ha, q⟩ => ⟨a, by simp [ha], q⟩
      have hrel := xc h ho hF hyl hys
      have := cb.append (P := fun b => P b ∨ Eq ρ ob L b ∨ tq Z ((lo, hi) :: IV) b) (cb.one hrel) (h3 n P ds hiv.2.2 hf fun b hb => ⟨(hP b hb).1, fun q => (hP b hb).2 (inr b q)⟩) (fun b q1 q2 => by
       rcases q1 with q1 | ⟨q1, q1', q1z⟩
       ·rcases q2 with q2 | ⟨id2, o2, hin2, ho2, hb2⟩ | ⟨_, _, _, _, q2⟩
        ·exact (h.mine id _ b ho q1).1 (hP b q2).1
        ·exact h.sep id2 id o2 _ b ho2 ho (qO hin2).2 hb2 q1
        ·exact (h.mine id _ b ho q1).1 q2
       ·rcases q2 with q2 | ⟨id2, o2, hin2, ho2, hb2⟩ | q2
        ·exact (hP b q2).2 ⟨(lo, hi), by simp, q1, q1', q1z⟩
        ·exact (h.mine id2 _ b ho2 hb2).1 q1z
        ·exact yo q1 q1' hiv.2.1 q2) (fun b q => by
       rcases q with q | q
       ·exact .inr (.inl ⟨id, _, hin, ho, q⟩)
       ·exact .inr (.inr ⟨(lo, hi), by simp, q⟩)) (fun b q => q.imp (fun h => h) fun q => q.imp (fun ⟨id2, o2, a, b, c⟩ => ⟨id2, o2, (qO a).1, b, c⟩) (inr b))
      simpa [zY] using this
    ·exact hk.elim
  | d x => exact data x h0 hk
  | nil =>
   have hu : u = .slice none 0 0 := h0
   exact data (.sl []) (by rw [hu]; exact .sl [] none 0 0 [] (Nat.le_refl _) (Nat.zero_le _) rfl (by simp) (by simp) (.inl rfl) (by simp)) hk
  | _ => exact hk.elim
theorem C0 {n : Nat} {Z : Nat → Prop} {b : Nat} : ∀ {IV : List (Nat × Nat)}, ivs n IV → tq Z IV b → n ≤ b ∧ Z b
 | [], _, ⟨_, h, _⟩ => by cases h
 | a :: r, hi, ⟨x, hx, e1, e2, hz⟩ => by
  rcases List.mem_cons.1 hx with rfl | hx
  ·exact ⟨Nat.le_trans hi.1 e1, hz⟩
  ·exact C0 hi.2.2 ⟨x, hx, e1, e2, hz⟩
end
def CM (ob : List (Nat × AO)) (n : Nat) (x : AV) (res : AP1) : Prop :=
 match x with
 | .agg cs => tD ob cs [] fun cs' pat IV => ∃ (lo hi : Nat) (ds : List AD), ivs n ((lo, hi) :: IV) ∧ Fam lo hi cs' ds ∧ res = .agg (zY pat ds)
 | _ => False
def y8 (E : ba) (st : ASt) (n : Nat) (rs : List ResultVar) (res : AP1) : Prop :=
 match rs with
 | [.tmp t] => aTm st.tm t fun v => CM st.ob n v res
 | [.cell t ty] => aTm st.tm t fun x => pq E st ty x fun v => CM st.ob n v res
 | _ => False
def Kl (E : ba) (rs : List ResultVar) (n : Nat) (res : AP1) : Exit → ASt → Prop
 | .ret, st => y8 E st n rs res
 | .normal, st => y8 E st n rs res
 | _, _ => False
section
variable {E : ba} {S : bt}
theorem wn {st : ASt} {Z : Nat → Prop} {ρ : Nat → Value} {w : World} (h : WS E.W S Z w ρ st.ob) (hO : ∀ b, ¬ S.O b) {x : AV} {v : Value} {res : AP1} (hv : bM Z w ρ x v) (hk : CM st.ob S.w0.heap.size x res) : xI S.w0.heap.size w.heap.size w res v := by
 unfold CM at hk
 split at hk
 ·cases hv with
  | agg _ us hl hr =>
   obtain ⟨cs', pat, us', IV, ⟨lo, hi, ds, hiv, hf, rfl⟩, h1, h2, h3⟩ := qC h hl hr hk
   refine ⟨us, rfl, (h3 _ _ ds hiv.2.2 (hf.2 Z w us' h1 h2) fun b hb => ⟨hb.2.2, yo hb.1 hb.2.1 hiv.2.1⟩).mono fun b hb => ?_⟩
   rcases hb with hb | ⟨id, o, _, ho, hbk⟩ | hb
   ·exact ⟨Nat.le_trans hiv.1 hb.1, h.zlt b hb.2.2⟩
   ·exact ⟨(h.mine id o b ho hbk).2.resolve_right (hO b), h.lt ho hbk⟩
   ·have := C0 hiv.2.2 hb
    exact ⟨this.1, h.zlt b this.2⟩
 ·exact hk.elim
theorem Dp {st : ASt} (he : E.Ok) {Z : Nat → Prop} {ρ : Nat → Value} {a : Act} {w : World} (h : Sim E.W S Z ρ st a w) (hO : ∀ b, ¬ S.O b) {fn : Func} {res : AP1} (hk : y8 E st S.w0.heap.size fn.results.toList res) :
  ∃ v, (results fn a.tmps).run E.P w = .ok v w ∧ xI S.w0.heap.size w.heap.size w res v := by
 have hres : ∀ vs : List Value, (fn.results.toList.mapM (cU a.tmps)).run E.P w = .ok vs w → (results fn a.tmps).run E.P w = .ok (if h : vs.toArray.size = 1 then vs.toArray[0] else .tuple vs.toArray) w := by
  intro vs hvs
  have e : results fn a.tmps = (do let vs ← fn.results.mapM (cU a.tmps); pure (if h : vs.size = 1 then vs[0] else .tuple vs)) := rfl
  rw [e, Sem.run_bind, Array.mapM_eq_mapM_toList, Sem.run_map, hvs]
  rfl
 unfold y8 at hk
 split at hk
 ·rename_i t hr
  obtain ⟨x, hx, hk⟩ := fK hk
  have hlt : t < a.tmps.size := by rw [h.len]; exact (List.getElem?_eq_some_iff.1 hx).1
  have hp := wn h.ws hO (h.tm t x _ hx (Array.getElem?_eq_getElem hlt)) hk
  have h1 : (cU a.tmps (.tmp t)).run E.P w = .ok a.tmps[t] w := by simp [cU, hlt]
  have := hres [a.tmps[t]] (by rw [hr, List.mapM_cons, Sem.run_bind, h1]; rfl)
  exact ⟨a.tmps[t], this, hp⟩
 ·rename_i t ty hr
  obtain ⟨x, hx, hk⟩ := fK hk
  have hlt : t < a.tmps.size := by rw [h.len]; exact (List.getElem?_eq_some_iff.1 hx).1
  obtain ⟨b, off, v, y, e, hrl, hy, hk⟩ := nU he h (h.tm t x _ hx (Array.getElem?_eq_getElem hlt)) hk
  have hp := wn h.ws hO hy hk
  have h1 : (cU a.tmps (.cell t ty)).run E.P w = .ok v w := by simp [cU, hlt, e, asAddr, hrl]
  have := hres [v] (by rw [hr, List.mapM_cons, Sem.run_bind, h1]; rfl)
  exact ⟨v, this, hp⟩
 ·exact hk.elim
theorem bh (he : E.Ok) {f : FuncId} {fn : Func} {c : Code} {n : Nat} {rs : List ResultVar} {args : List AP1} {res : AP1} (hf : E.P.funcs[f]? = some fn) (hb : fn.body = some c)
  (enter : ∀ (us : Array Value) w, (callFunc f us).run E.P w = .ok (.enter f us) w) (hn : fn.ntmps = n) (hrs : fn.results.toList = rs)
  (h : ∀ S : bt, y0 args n fun tm => AWP E S c (Kl E rs S.w0.heap.size res) ⟨tm, [(9997, cN S.w0.heap.size S.w0.heap.size)]⟩) : bk E f args res := by
 refine ⟨enter, fun Z w us hz hg hl hr => ?_⟩
 subst hn hrs
 obtain ⟨hle, hk⟩ := oq (h ⟨w, fun _ => False, Z⟩)
 have hs : Sim E.W ⟨w, fun _ => False, Z⟩ Z (fun _ => undef) ⟨args.map AP1.v ++ List.replicate (fn.ntmps - args.length) (.one .und), [(9997, cN w.heap.size w.heap.size)]⟩ { tmps := us.toArray ++ Array.replicate (fn.ntmps - us.toArray.size) undef, defers := [] } w := by
  have hw0 : WS E.W ⟨w, fun _ => False, Z⟩ Z w (fun _ => undef) [] := ⟨rfl, rfl, rfl, Nat.le_refl _, fun _ _ _ => rfl, hz, fun id o b ho _ => (by cases ho), fun i j oi oj b hi _ _ _ _ => (by cases hi), fun id o ho => (by cases ho), hE.nil, hg, fun b hb => hb, fun b hb => .inl hb⟩
  refine ⟨hw0.reframe (id := 9997) (oY rfl (.inl (Nat.le_refl _))), by simp [hl], fun i x v hx hv => ?_, rfl⟩
  simp only at hx hv
  have hv' : (us ++ List.replicate (fn.ntmps - us.length) undef)[i]? = some v := by
   have := hv
   rw [← Array.getElem?_toList] at this
   simpa using this
  by_cases hi : i < us.length
  ·rw [List.getElem?_append_left (by simpa [hl] using hi), List.getElem?_map] at hx
   obtain ⟨p, hp, rfl⟩ := Option.map_eq_some_iff.1 hx
   rw [List.getElem?_append_left hi] at hv'
   exact (hr i p v hp hv').v
  ·rw [List.getElem?_append_right (by simp; omega)] at hx
   rw [List.getElem?_append_right (by omega)] at hv'
   have e1 := List.eq_of_mem_replicate (List.mem_of_getElem? hx)
   have e2 := List.eq_of_mem_replicate (List.mem_of_getElem? hv')
   subst e1 e2
   exact .one _ _ (show eh Z w (fun _ => undef) .und undef from rfl)
 refine calls_of_wp hf hb (wp_mono (hk.run _ w ⟨Z, _, hs⟩) fun e a' w' h' => ?_)
 obtain ⟨st', ⟨Z', ρ', hs'⟩, hk'⟩ := h'
 have fin : y8 E st' w.heap.size fn.results.toList res → a'.defers = [] ∧ ∃ v, (results fn a'.tmps).run E.P w' = .ok v w' ∧ ∃ v0, Ending.returned v = .returned v0 ∧ Below w.heap.size w w' ∧ xI w.heap.size w'.heap.size w' res v0 := by
  intro hr
  obtain ⟨v, h1, h2⟩ := Dp he hs' (fun b h => h) hr
  exact ⟨hs'.df, v, h1, v, rfl, ⟨hs'.ws.os, hs'.ws.tape, hs'.ws.output, hs'.ws.size, fun b hb => hs'.ws.old b hb (fun h => h)⟩, h2⟩
 cases e with
 | normal => exact fin hk'
 | ret => exact fin hk'
 | _ => exact hk'.elim
end
end Go.Proofs.YtcmknngafflcnaaGreat
namespace Go.Proofs.YtcmknngafflcnaaGreat
open Go.RowKit
structure HZ (E : ba) (f : FuncId) (e : TypeId) (s : Nat) (xs xs' : List (List AD)) (ps : List AP1) : Prop where
 enter : ∀ (us : Array Value) w, (callFunc f us).run E.P w = .ok (.enter f us) w
 run : ∀ (Z : Nat → Prop) (w : World) (v : Value) (us : List Value), (∀ b, Z b → b < w.heap.size) → GZ E.W Z w → cw Z w (fun _ => v) 0 (.row e s xs) → (∀ b, aZ v = some b → ¬ Z b) → us.length = ps.length → (∀ (i : Nat) p u, ps[i]? = some p → us[i]? = some u → dA Z w p u) →
  Calls E.P f (v :: us).toArray w fun en w' => en = .returned (.tuple #[]) ∧ lD (fun b => aZ v = some b) w w' ∧ cw Z w' (fun _ => v) 0 (.row e s xs')
theorem WS.turnRow {T : World → Prop} {S : bt} {Z : Nat → Prop} {w w' : World} {ρ : Nat → Value} {ob : List (Nat × AO)} (h : WS T S Z w ρ ob) {id s : Nat} {e : TypeId} {xs xs' : List (List AD)} (ho : bg ob id = some (.row e s xs)) (ht : lD (fun b => aZ (ρ id) = some b) w w')
  (hr : cw Z w' (fun _ => ρ id) 0 (.row e s xs')) : WS T S Z w' ρ (db ob id (.row e s xs')) := by
 have hz : ∀ b, Z b → w'.heap[b]? = w.heap[b]? := fun b hb => ht.block b (h.zlt b hb) fun hp => (h.mine id _ b ho hp).1 hb
 have far : ∀ j o b, j ≠ id → bg ob j = some o → aZ (ρ j) = some b → w'.heap[b]? = w.heap[b]? := fun j o b hj hjo hb => ht.block b (h.lt hjo hb) fun hp => h.sep j id o _ b hjo ho hj hb hp
 have old : ∀ j o1, bg (db ob id (.row e s xs')) j = some o1 → ∃ o0, bg ob j = some o0 ∧ (j ≠ id → o1 = o0) := by
  intro j o1 h1
  rw [bo] at h1
  split at h1
  ·rename_i e; subst e; exact ⟨_, ho, fun h => absurd rfl h⟩
  ·exact ⟨o1, h1, fun _ => rfl⟩
 refine ⟨ht.os.trans h.os, ht.tape.trans h.tape, ht.output.trans h.output, Nat.le_trans h.size ht.size, fun b hb hO => ?_, fun b hb => Nat.lt_of_lt_of_le (h.zlt b hb) ht.size, fun j o b hj hb => ?_, fun i j oi oj b hi hj hij hbi hbj => ?_, fun j o hj => ?_, ⟨fun j P Q hj => ?_, fun i j P Q P' Q' hi hj hij => ?_⟩, ?_, h.z0, h.znew⟩
 ·refine (ht.block b (Nat.lt_of_lt_of_le hb h.size) fun hp => ?_).trans (h.old b hb hO)
  rcases (h.mine id _ b ho hp).2 with h3 | h3
  ·omega
  ·exact hO h3
 ·obtain ⟨o0, h0, _⟩ := old j o hj
  exact h.mine j o0 b h0 hb
 ·obtain ⟨o0, h0, _⟩ := old i oi hi
  obtain ⟨o1, h1, _⟩ := old j oj hj
  exact h.sep i j o0 o1 b h0 h1 hij hbi hbj
 ·by_cases hjd : j = id
  ·subst hjd
   rw [bo, if_pos rfl] at hj
   injection hj with hj
   subst hj
   exact hr
  ·obtain ⟨o0, h0, e⟩ := old j o hj
   rw [e hjd]
   exact (h.obj j o0 h0).mono (fun _ h => h) hz fun b hb => far j o0 b hjd h0 hb
 ·have hjd : j ≠ id := by
   rintro rfl
   rw [bo, if_pos rfl] at hj
   cases hj
  obtain ⟨o0, h0, e⟩ := old j _ hj
  have := e hjd
  subst this
  obtain ⟨h1, h2⟩ := h.many.ok j P Q h0
  refine ⟨fun b hb => ⟨Nat.lt_of_lt_of_le (h1 b hb).1 ht.size, (h1 b hb).2.1, (h1 b hb).2.2.1, fun i o hi hbi => ?_⟩, fun w2 hw => h2 w2 fun b hb => (hw b hb).trans (ht.block b (h1 b hb).1 fun hp => (h1 b hb).2.2.2 id _ ho hp)⟩
  obtain ⟨o1, h3, _⟩ := old i o hi
  exact (h1 b hb).2.2.2 i o1 h3 hbi
 ·have hid : ∀ k P Q, bg (db ob id (.row e s xs')) k = some (.many P Q) → bg ob k = some (.many P Q) := by
   intro k P Q hk
   rw [bo] at hk
   split at hk
   ·cases hk
   ·exact hk
  exact h.many.sep i j P Q P' Q' (hid i P Q hi) (hid j P' Q' hj) hij
 ·obtain ⟨w1, g1, g2, g3⟩ := h.g
  exact ⟨w1, g1, ⟨ht.os.trans g2.os, ht.tape.trans g2.tape, ht.output.trans g2.output, Nat.le_trans g2.size ht.size, fun k hk => (hz k (g3 k hk)).trans (g2.block k hk)⟩, g3⟩
section
variable {E : ba} {S : bt}
theorem aa.row {f : FuncId} {rest : List AV} {tm : List AV} {ob : List (Nat × AO)} {K : AV → ASt → Prop} {id s : Nat} {e : TypeId} {xs xs' : List (List AD)} {ps : List AP1} (hc : HZ E f e s xs xs' ps) (hob : aOb ob id fun o => o = .row e s xs) (hps : aPs rest (· = ps))
  (hk : dX id (.row e s xs') ob fun ob => K (.tup []) ⟨tm, ob⟩) : aa E S f (.one (.own id) :: rest) ⟨tm, ob⟩ K := by
 refine ⟨hc.enter, fun Z ρ a w us hs hl hr => ?_⟩
 obtain ⟨o, ho, rfl⟩ := bH hob
 cases us with
 | nil => simp at hl
 | cons v us =>
  have hv : v = ρ id := by
   have := hr 0 _ v rfl rfl
   cases this with | one _ _ h => exact h.1
  subst hv
  have hws0 : WS E.W S Z w ρ [] := hs.ws.sub ai.nil
  obtain ⟨ps', h1, h2, rfl⟩ := fJ (st := ⟨[], []⟩) hws0 (xs := rest) (us := us) (by simpa using hl) (fun i y z h1 h2 => hr (i + 1) y z (by simpa using h1) (by simpa using h2)) (BF hps)
  have hz0 : ∀ b, fI Z ρ [] b → Z b := by rintro b (hb | ⟨id, o, ho, _⟩); exact hb; cases ho
  refine (hc.run Z w (ρ id) us hs.ws.zlt hs.ws.g (hs.ws.obj id _ ho) (fun b hb => (hs.ws.mine id _ b ho hb).1) h1 fun i p u h3 h4 => (h2 i p u h3 h4).up hz0).mono ?_
  rintro en w' ⟨rfl, ht, hr'⟩
  have hz : ∀ b, Z b → w'.heap[b]? = w.heap[b]? := fun b hb => ht.block b (hs.ws.zlt b hb) fun hp => (hs.ws.mine id _ b ho hp).1 hb
  refine ⟨_, .tup [], ⟨tm, db ob id (.row e s xs')⟩, Z, ρ, rfl, ⟨hs.ws.turnRow ho ht hr', hs.len, fun i z q hz' hq => (hs.tm i z q hz' hq).mono (fun _ h => h) hz, hs.df⟩, .tup [] [] rfl (by simp), bX hk⟩
def v5 (v : Value) : AO := .frame [.one (.own 1000)] [v]
end
end Go.Proofs.YtcmknngafflcnaaGreat
namespace Go.Proofs.YtcmknngafflcnaaGreat
open Go.RowKit
structure Er (E : ba) (f : FuncId) (n j : Nat) (e : TypeId) (s : Nat) (xs xs' : List (List AD)) : Prop where
 enter : ∀ (us : Array Value) w, (callFunc f us).run E.P w = .ok (.enter f us) w
 run : ∀ (Z : Nat → Prop) (w : World) (v : Value) (us : List Value), (∀ b, Z b → b < w.heap.size) → GZ E.W Z w → us.length = n → (∀ u ∈ us, u.oneCell' = true) → us[j]? = some v → cw Z w (fun _ => v) 0 (.row e s xs) → (∀ b, aZ v = some b → ¬ Z b) →
  Calls E.P f #[.agg us.toArray] w fun en w' => en = .returned (.agg us.toArray) ∧ lD (fun b => aZ v = some b) w w' ∧ cw Z w' (fun _ => v) 0 (.row e s xs')
def H5 : AC → Bool
 | .d _ => true
 | .nil => true
 | .own _ => true
 | _ => false
theorem Fa {Z : Nat → Prop} {w : World} {ρ : Nat → Value} {c : AC} {v : Value} (h : H5 c = true) (hr : eh Z w ρ c v) : v.oneCell' = true := by
 cases c with
 | d x => exact bC.one hr
 | nil => have hr : v = .slice none 0 0 := hr; subst hr; rfl
 | own id => exact hr.2
 | _ => cases h
section
variable {E : ba} {S : bt}
theorem aa.sc {f : FuncId} {cs : List AC} {tm : List AV} {ob : List (Nat × AO)} {K : AV → ASt → Prop} {n j id s : Nat} {e : TypeId} {xs xs' : List (List AD)} (hc : Er E f n j e s xs xs') (hn : cs.length = n) (hj : cs[j]? = some (.own id)) (h1 : cs.all H5 = true) (hob : aOb ob id fun o => o = .row e s xs)
  (hk : dX id (.row e s xs') ob fun ob => K (.agg cs) ⟨tm, ob⟩) : aa E S f [.agg cs] ⟨tm, ob⟩ K := by
 refine ⟨hc.enter, fun Z ρ a w us hs hl hr => ?_⟩
 obtain ⟨o, ho, rfl⟩ := bH hob
 match us, hl with
 | [va], _ =>
  have hva := hr 0 _ va rfl rfl
  cases hva with
  | agg _ vs hvl hvr =>
   have hlt : j < vs.length := by rw [hvl]; exact (List.getElem?_eq_some_iff.1 hj).1
   have hv := hvr j _ _ hj (List.getElem?_eq_getElem hlt)
   have hv : vs[j] = ρ id := hv.1
   refine (hc.run Z w (ρ id) vs hs.ws.zlt hs.ws.g (by rw [hvl, hn]) (fun u hu => ?_) (by rw [List.getElem?_eq_getElem hlt, hv]) (hs.ws.obj id _ ho) (fun b hb => (hs.ws.mine id _ b ho hb).1)).mono ?_
   ·obtain ⟨i, hi, rfl⟩ := List.getElem_of_mem hu
    have hic : i < cs.length := by rw [← hvl]; exact hi
    exact Fa (List.all_eq_true.1 h1 cs[i] (List.getElem_mem hic)) (hvr i _ _ (List.getElem?_eq_getElem hic) (List.getElem?_eq_getElem hi))
   ·rintro en w' ⟨rfl, ht, hr'⟩
    have hz : ∀ b, Z b → w'.heap[b]? = w.heap[b]? := fun b hb => ht.block b (hs.ws.zlt b hb) fun hp => (hs.ws.mine id _ b ho hp).1 hb
    exact ⟨_, .agg cs, ⟨tm, db ob id (.row e s xs')⟩, Z, ρ, rfl, ⟨hs.ws.turnRow ho ht hr', hs.len, fun i z q hz' hq => (hs.tm i z q hz' hq).mono (fun _ h => h) hz, hs.df⟩, (bM.agg cs vs hvl hvr).mono (fun _ h => h) hz, bX hk⟩
def gC (u : Nat → Value) (j : Nat) : Nat → Nat → List AC
 | _, 0 => []
 | i, n + 1 => (match Nat.beq i j with
  | true => .own 1000
  | false => .d (.pv (u i))) :: gC u j (i + 1) n
theorem p9 (u : Nat → Value) (j : Nat) : ∀ n i, (gC u j i n).length = n
 | 0, _ => rfl
 | n + 1, i => by simp [gC, p9 u j n]
theorem p8 (u : Nat → Value) (j : Nat) : ∀ n i k, k < n → (gC u j i n)[k]? = some (match Nat.beq (i + k) j with
  | true => .own 1000
  | false => .d (.pv (u (i + k))))
 | 0, _, k, h => absurd h (Nat.not_lt_zero _)
 | n + 1, i, 0, _ => by simp [gC]
 | n + 1, i, k + 1, h => by
  have := p8 u j n (i + 1) k (by omega)
  rw [show i + 1 + k = i + (k + 1) by omega] at this
  simpa [gC] using this
def y9 (E : ba) (st : ASt) (rs : List ResultVar) (K : AV → Prop) : Prop :=
 match rs with
 | [.tmp t] => aTm st.tm t K
 | [.cell t ty] => aTm st.tm t fun x => pq E st ty x K
 | _ => False
theorem Dq {st : ASt} (he : E.Ok) {Z : Nat → Prop} {ρ : Nat → Value} {a : Act} {w : World} (h : Sim E.W S Z ρ st a w) {fn : Func} {K : AV → Prop} (hk : y9 E st fn.results.toList K) :
  ∃ v x, (results fn a.tmps).run E.P w = .ok v w ∧ bM Z w ρ x v ∧ K x := by
 have hres : ∀ vs : List Value, (fn.results.toList.mapM (cU a.tmps)).run E.P w = .ok vs w → (results fn a.tmps).run E.P w = .ok (if h : vs.toArray.size = 1 then vs.toArray[0] else .tuple vs.toArray) w := by
  intro vs hvs
  have e : results fn a.tmps = (do let vs ← fn.results.mapM (cU a.tmps); pure (if h : vs.size = 1 then vs[0] else .tuple vs)) := rfl
  rw [e, Sem.run_bind, Array.mapM_eq_mapM_toList, Sem.run_map, hvs]
  rfl
 unfold y9 at hk
 split at hk
 ·rename_i t hr
  obtain ⟨x, hx, hk⟩ := fK hk
  have hlt : t < a.tmps.size := by rw [h.len]; exact (List.getElem?_eq_some_iff.1 hx).1
  have h1 : (cU a.tmps (.tmp t)).run E.P w = .ok a.tmps[t] w := by simp [cU, hlt]
  have := hres [a.tmps[t]] (by rw [hr, List.mapM_cons, Sem.run_bind, h1]; rfl)
  exact ⟨a.tmps[t], x, this, h.tm t x _ hx (Array.getElem?_eq_getElem hlt), hk⟩
 ·rename_i t ty hr
  obtain ⟨x, hx, hk⟩ := fK hk
  have hlt : t < a.tmps.size := by rw [h.len]; exact (List.getElem?_eq_some_iff.1 hx).1
  obtain ⟨b, off, v, y, e, hrl, hy, hk⟩ := nU he h (h.tm t x _ hx (Array.getElem?_eq_getElem hlt)) hk
  have h1 : (cU a.tmps (.cell t ty)).run E.P w = .ok v w := by simp [cU, hlt, e, asAddr, hrl]
  have := hres [v] (by rw [hr, List.mapM_cons, Sem.run_bind, h1]; rfl)
  exact ⟨v, y, this, hy, hk⟩
 ·exact hk.elim
def Kn (E : ba) (rs : List ResultVar) (v : Value) (u : Nat → Value) (n j : Nat) (e : TypeId) (s : Nat) (xs' : List (List AD)) : Exit → ASt → Prop
 | .ret, st => (y9 E st rs fun x => x = .agg (gC u j 0 n)) ∧ (aOb st.ob 9999 fun o => o = v5 v) ∧ aOb st.ob 1000 fun o => o = .row e s xs'
 | .normal, st => (y9 E st rs fun x => x = .agg (gC u j 0 n)) ∧ (aOb st.ob 9999 fun o => o = v5 v) ∧ aOb st.ob 1000 fun o => o = .row e s xs'
 | _, _ => False
theorem Fk (he : E.Ok) {f : FuncId} {fn : Func} {c : Code} {k n j : Nat} {rs : List ResultVar} {e : TypeId} {s : Nat} {xs xs' : List (List AD)} (hf : E.P.funcs[f]? = some fn) (hb : fn.body = some c)
  (enter : ∀ (us : Array Value) w, (callFunc f us).run E.P w = .ok (.enter f us) w) (hn : fn.ntmps = k + 1) (hrs : fn.results.toList = rs) (hpv : ∀ x ∈ xs', x.all AD.isPv = true)
  (h : ∀ (S : bt) (v : Value) (u : Nat → Value), CR k fun tm => AWP E S c (Kn E rs v u n j e s xs') ⟨.agg (gC u j 0 n) :: tm, [(9999, v5 v), (1000, .row e s xs)]⟩) : Er E f n j e s xs xs' := by
 refine ⟨enter, fun Z w v us hz hg hun hu1 hj hrow hnz => ?_⟩
 subst hrs
 have hk := ry (h ⟨w, fun b => aZ v = some b, Z⟩ v (uOf us))
 have h1 : v.oneCell' = true := hu1 v (List.mem_of_getElem? hj)
 have hu : ∀ i x, us[i]? = some x → uOf us i = x := fun i x hx => by simp [uOf, List.getD_eq_getElem?_getD, hx]
 have only : ∀ i o, bg [(9999, v5 v), (1000, AO.row e s xs)] i = some o → (i = 9999 ∧ o = v5 v) ∨ (i = 1000 ∧ o = .row e s xs) := by
  intro i o ho
  simp only [bg] at ho
  split at ho
  ·rename_i e; injection ho with ho; exact .inl ⟨e.symm, ho.symm⟩
  ·split at ho
   ·rename_i e; injection ho with ho; exact .inr ⟨e.symm, ho.symm⟩
   ·cases ho
 have hws : WS E.W ⟨w, fun b => aZ v = some b, Z⟩ Z w (fun i => if i = 1000 then v else undef) [(9999, v5 v), (1000, .row e s xs)] := by
  refine ⟨rfl, rfl, rfl, Nat.le_refl _, fun _ _ _ => rfl, hz, fun id o b ho hb => ?_, fun i j oi oj b hi hj hij hbi hbj => ?_, fun id o ho => ?_, hE.none fun id P Q ho => ?_, hg, fun b hb => hb, fun b hb => .inl hb⟩
  ·rcases only id o ho with ⟨rfl, rfl⟩ | ⟨rfl, rfl⟩
   ·cases hb
   ·exact ⟨hnz b hb, .inr hb⟩
  ·rcases only i oi hi with ⟨rfl, rfl⟩ | ⟨rfl, rfl⟩
   ·cases hbi
   ·rcases only j oj hj with ⟨rfl, rfl⟩ | ⟨rfl, rfl⟩
    ·cases hbj
    ·exact hij rfl
  ·rcases only id o ho with ⟨rfl, rfl⟩ | ⟨rfl, rfl⟩
   ·refine ⟨rfl, rfl, fun i x u hx hu => ?_⟩
    cases i with
    | zero => simp at hx hu; subst hx hu; exact .one (.own 1000) _ ⟨rfl, h1⟩
    | succ i => simp at hx
   ·exact hrow
  ·rcases only id _ ho with ⟨_, e⟩ | ⟨_, e⟩ <;> cases e
 have hcell : bM Z w (fun i => if i = 1000 then v else undef) (.agg (gC (uOf us) j 0 n)) (.agg us.toArray) := by
  refine .agg _ us (by rw [p9, hun]) fun i c x hc hx => ?_
  have hi : i < n := by rw [← hun]; exact (List.getElem?_eq_some_iff.1 hx).1
  rw [p8 _ _ _ _ _ hi, Nat.zero_add] at hc
  injection hc with hc
  subst hc
  cases hb : Nat.beq i j with
  | true =>
   have := Nat.eq_of_beq_eq_true hb
   subst this
   rw [hj] at hx
   injection hx with hx
   subst hx
   exact ⟨rfl, h1⟩
  | false =>
   rw [hu i x hx]
   exact .pv _ (hu1 x (List.mem_of_getElem? hx))
 have hs : Sim E.W ⟨w, fun b => aZ v = some b, Z⟩ Z (fun i => if i = 1000 then v else undef) ⟨.agg (gC (uOf us) j 0 n) :: List.replicate k (.one .und), [(9999, v5 v), (1000, .row e s xs)]⟩ { tmps := #[.agg us.toArray] ++ Array.replicate (fn.ntmps - #[Value.agg us.toArray].size) undef, defers := [] } w := by
  refine ⟨hws, by simp [hn]; try omega, fun i x y hx hy => ?_, rfl⟩
  simp only at hx hy
  have hy' : (Value.agg us.toArray :: List.replicate k undef)[i]? = some y := by
   rw [← Array.getElem?_toList] at hy
   simpa [hn] using hy
  cases i with
  | zero => simp at hx hy'; subst hx hy'; exact hcell
  | succ i =>
   simp only [List.getElem?_cons_succ] at hx hy'
   have e1 := List.eq_of_mem_replicate (List.mem_of_getElem? hx)
   have e2 := List.eq_of_mem_replicate (List.mem_of_getElem? hy')
   subst e1 e2
   exact .one .und _ rfl
 refine calls_of_wp hf hb (wp_mono (hk.run _ w ⟨Z, _, hs⟩) fun en a' w' h' => ?_)
 obtain ⟨st', ⟨Z', ρ', hs'⟩, hk'⟩ := h'
 have fin : ((y9 E st' fn.results.toList fun x => x = .agg (gC (uOf us) j 0 n)) ∧ (aOb st'.ob 9999 fun o => o = v5 v) ∧ aOb st'.ob 1000 fun o => o = .row e s xs') → a'.defers = [] ∧ ∃ y, (results fn a'.tmps).run E.P w' = .ok y w' ∧ Ending.returned y = .returned (.agg us.toArray) ∧ lD (fun b => aZ v = some b) w w' ∧ cw Z w' (fun _ => v) 0 (.row e s xs') := by
  rintro ⟨hr, ho9, ho1⟩
  obtain ⟨y, q, h2, h3, rfl⟩ := Dq he hs' hr
  obtain ⟨o, ho9, rfl⟩ := bH ho9
  obtain ⟨o, ho1, rfl⟩ := bH ho1
  have hv : v = ρ' 1000 := by
   have := (show cw Z' w' ρ' 9999 (v5 v) from hs'.ws.obj 9999 _ ho9).2.2 0 _ v rfl rfl
   cases this with | one _ _ h => exact h.1
  have hy : y = .agg us.toArray := by
   cases h3 with
   | agg _ vs hvl hvr =>
    rw [p9] at hvl
    have : vs = us := by
     refine List.ext_getElem? fun i => ?_
     by_cases hi : i < n
     ·have hx := List.getElem?_eq_getElem (l := vs) (by rw [hvl]; exact hi)
      have hu2 := List.getElem?_eq_getElem (l := us) (by rw [hun]; exact hi)
      have hc := hvr i _ _ (p8 (uOf us) j n 0 i hi) hx
      rw [hx, hu2]
      congr 1
      rw [Nat.zero_add] at hc
      cases hb : Nat.beq i j with
      | true =>
       rw [hb] at hc
       have e1 := hc.1
       have := Nat.eq_of_beq_eq_true hb
       subst this
       rw [hu2] at hj
       injection hj with hj
       rw [e1, hj, hv]
      | false =>
       rw [hb] at hc
       have hc : bC Z' w' (.pv (uOf us i)) vs[i] := hc
       generalize hvi : vs[i] = q at hc
       cases hc with
       | pv _ _ => exact hu i _ hu2
     ·rw [List.getElem?_eq_none (by omega), List.getElem?_eq_none (by omega)]
    rw [this]
  refine ⟨hs'.df, _, h2, by rw [hy], ⟨hs'.ws.os, hs'.ws.tape, hs'.ws.output, hs'.ws.size, fun b hb hp => hs'.ws.old b hb hp⟩, ?_⟩
  obtain ⟨us2, g0, g1, g2, g3, g4, g5⟩ := (show cw Z' w' ρ' 1000 (.row e s xs') from hs'.ws.obj 1000 _ ho1)
  refine ⟨us2, g0, g1, g2, g3, by rw [hv]; exact g4, fun i j x u a b e1 e2 e3 e4 => ?_⟩
  have hp := List.all_eq_true.1 (hpv x (List.mem_of_getElem? e1)) a (List.mem_of_getElem? e3)
  have := g5 i j x u a b e1 e2 e3 e4
  cases this with
  | pv _ h1 => exact .pv _ h1
  | sl => cases hp
  | x => cases hp
 cases en with
 | normal => exact fin hk'
 | ret => exact fin hk'
 | _ => exact hk'.elim
theorem Gw {Z P : Nat → Prop} {w : World} {d : AD} {u : Value} (hb : d.isBl = true) (h : bb w P d u) : bC Z w d u := by
 cases h with
 | pv _ _ h1 => exact .pv _ h1
 | emp _ A cap hm => exact .sl [] A cap 1 [] (Nat.zero_le _) hm rfl (by simp) (by simp) (.inl rfl) (by simp)
 | sl _ xs e s us v Q hs hl hx hu hown hbk hQ hd h =>
  cases xs with
  | nil =>
   rcases hown.2 with ⟨hv, _⟩ | ⟨g, cap, cur, hv, _, _, h1, h2, _⟩
   ·rw [hv]; exact .sl [] none 0 0 [] (Nat.le_refl _) (Nat.zero_le _) rfl (by simp) (by simp) (.inl rfl) (by simp)
   ·rw [hv]; exact .sl [] _ cap 1 [] (Nat.zero_le _) h2 rfl (by simp) (by simp) (.inl rfl) (by simp)
  | cons x r => cases hb
theorem WS.widen {T : World → Prop} {S : bt} {Z Z' : Nat → Prop} {w : World} {ρ : Nat → Value} {ob : List (Nat × AO)} (h : WS T S Z w ρ ob) (hz : ∀ b, Z b → Z' b) (hn : ∀ b, Z' b → Z b ∨ (b < w.heap.size ∧ S.w0.heap.size ≤ b ∧ (∀ i o, bg ob i = some o → aZ (ρ i) ≠ some b) ∧ ∀ i P Q, bg ob i = some (.many P Q) → ¬ P b)) : WS T S Z' w ρ ob := by
 refine ⟨h.os, h.tape, h.output, h.size, h.old, fun b hb => ?_, fun id o b ho hb => ⟨fun hzb => ?_, (h.mine id o b ho hb).2⟩, h.sep, fun id o ho => (h.obj id o ho).mono hz (fun _ _ => rfl) fun _ _ => rfl, ⟨fun id P Q ho => ⟨fun b hb => ?_, (h.many.ok id P Q ho).2⟩, h.many.sep⟩, ?_, fun b hb => hz b (h.z0 b hb), fun b hb => ?_⟩
 ·rcases hn b hb with hb | hb
  ·exact h.zlt b hb
  ·exact hb.1
 ·rcases hn b hzb with hb' | hb'
  ·exact (h.mine id o b ho hb).1 hb'
  ·exact hb'.2.2.1 id o ho hb
 ·obtain ⟨h1, h2, h3, h4⟩ := (h.many.ok id P Q ho).1 b hb
  refine ⟨h1, fun hzb => ?_, h3, h4⟩
  rcases hn b hzb with hb' | hb'
  ·exact h2 hb'
  ·exact hb'.2.2.2 id P Q ho hb
 ·obtain ⟨w1, g1, g2, g3⟩ := h.g
  exact ⟨w1, g1, g2, fun b hb => hz b (g3 b hb)⟩
 ·rcases hn b hb with hb | hb
  ·exact h.znew b hb
  ·exact .inr (.inl hb.2.1)
theorem aa.freshO {f : FuncId} {args : List AV} {tm : List AV} {ob : List (Nat × AO)} {K : AV → ASt → Prop} {ps : List AP1} {m : Nat} (id s : Nat) (d1 d3 : List AD) (xs : List (List AD)) (hc : bk E f ps (.agg (d1 ++ .sl xs :: d3))) (hps : aRs ob args (· = ps)) (hm : aOb ob 9997 fun o => o = cN S.w0.heap.size m)
  (hne : xs ≠ []) (hxs : ∀ x ∈ xs, x.length = s) (hbl : ∀ x ∈ xs, x.all AD.isBl = true)
  (hk : ∀ R lo hi e, S.w0.heap.size ≤ lo → Fam lo hi (dt R 0 d1 ++ dt R (d1.length + 1) d3) (d1 ++ d3) → sT ⟨tm, ob⟩ id (.row e s xs) (K (.agg ((dt R 0 d1).map .d ++ .own id :: (dt R (d1.length + 1) d3).map .d)))) : aa E S f args ⟨tm, ob⟩ K := by
 refine ⟨hc.enter, fun Z ρ a w us hs hl hr => ?_⟩
 obtain ⟨ps', h1, h2, rfl⟩ := fJ hs.ws hl hr hps
 refine (hc.run (fI Z ρ ob) w us (fI.lt hs.ws) ?_ h1 h2).mono ?_
 ·obtain ⟨w1, g1, g2, g3⟩ := hs.ws.g
  exact ⟨w1, g1, g2, fun b hb => .inl (g3 b hb)⟩
 ·rintro en w' ⟨v, rfl, hb, us', rfl, lF, Q, q, eQ, rQ⟩
  have hsz := hb.size
  have hgr := cV hb
  have hlen : us'.length = d1.length + (d3.length + 1) := by rw [lF]; simp
  have hjl : d1.length < us'.length := by omega
  have ht := rQ d1.length (.sl xs) us'[d1.length] (by simp) (List.getElem?_eq_getElem hjl)
  generalize hv : us'[d1.length] = v at ht
  have hv1 : v.oneCell' = true := ht.one
  obtain ⟨e, ur, hrow, hvb⟩ : ∃ (e : TypeId) (ur : List (List Value)), (0 < s ∧ ur.length = xs.length ∧ (∀ u ∈ ur, u.length = s) ∧ w'.ownsRow 0 e s v xs.length ur.flatten ∧ ∀ (i : Nat) a u, xs.flatten[i]? = some a → ur.flatten[i]? = some u → ∃ P, bb w' P a u) ∧ ∀ b, aZ v = some b → Q d1.length b := by
   cases ht with
   | emp => exact absurd rfl hne
   | sl _ xs e s' ur v Qr hs hl hx hu hown hbk hQ hd h =>
    have : s' = s := by
     cases xs with
     | nil => exact absurd rfl hne
     | cons x r => rw [← hx x (by simp), hxs x (by simp)]
    subst this
    exact ⟨e, ur, ⟨hs, hl, hu, hown, fun i a u ha hu => ⟨_, h i a u ha hu⟩⟩, fun b hb => (hbk b hb).1⟩
  obtain ⟨h0, hul, hus, hown, hel⟩ := hrow
  let R : Nat → (Nat → Prop) → World → Value → Prop := fun i Zx wx u => (∀ b, Q i b → Zx b) ∧ ∃ a, (d1 ++ .sl xs :: d3)[i]? = some a ∧ bb wx (Q i) a u
  have rowRel : cw Z w' (fun i => if i = id then v else ρ i) id (.row e s xs) := by
   refine ⟨ur, h0, hul, hxs, hus, by simpa using hown, fun i j x u a b e1 e2 e3 e4 => ?_⟩
   have hj : j < s := by rw [← hxs x (List.mem_of_getElem? e1)]; exact (List.getElem?_eq_some_iff.1 e3).1
   obtain ⟨P, hP⟩ := hel (i * s + j) a b (by rw [ce hxs e1 hj]; exact e3) (by rw [ce hus e2 hj]; exact e4)
   exact Gw (List.all_eq_true.1 (hbl x (List.mem_of_getElem? e1)) a (List.mem_of_getElem? e3)) hP
  have h1 := hs.renew id v (.row e s xs) hgr (by simp) (fun b hb => .inr (q _ b (hvb b hb)).1) rowRel
  let Z' : Nat → Prop := fun b => Z b ∨ (w.heap.size ≤ b ∧ b < w'.heap.size ∧ aZ v ≠ some b)
  have old : ∀ j o, j ≠ id → bg (db (dV id ⟨tm, ob⟩).ob id (.row e s xs)) j = some o → ∃ o0, bg ob j = some o0 ∧ o = lG id o0 := by
   intro j o hj ho
   rw [bo, if_neg (fun e => hj e.symm)] at ho
   simp only [dV, lm] at ho
   obtain ⟨o0, h0, h1⟩ := Option.map_eq_some_iff.1 ho
   exact ⟨o0, h0, h1.symm⟩
  have h2 : Sim E.W S Z' (fun i => if i = id then v else ρ i) ⟨(dV id ⟨tm, ob⟩).tm, db (dV id ⟨tm, ob⟩).ob id (.row e s xs)⟩ a w' := by
   refine ⟨h1.ws.widen (fun b hb => .inl hb) fun b hb => ?_, h1.len, fun i x y hx hy => (h1.tm i x y hx hy).mono (fun b hb => .inl hb) fun _ _ => rfl, h1.df⟩
   rcases hb with hb | ⟨e1, e2, e3⟩
   ·exact .inl hb
   ·refine .inr ⟨e2, Nat.le_trans hs.ws.size e1, fun i o ho hbi => ?_, fun i P Q' ho hp => ?_⟩
    ·by_cases hi : i = id
     ·subst hi; simp only [if_true] at hbi; exact e3 hbi
     ·simp only [if_neg hi] at hbi
      obtain ⟨o0, h3, _⟩ := old i o hi ho
      have := hs.ws.lt h3 hbi
      omega
    ·have hi : i ≠ id := by
      rintro rfl
      rw [bo, if_pos rfl] at ho
      cases ho
     obtain ⟨o0, h3, e4⟩ := old i _ hi ho
     have h5 : bg ob i = some (.many P Q') := by rw [h3, p5 e4.symm]
     have := ((hs.ws.many.ok i P Q' h5).1 b hp).1
     omega
  have part : ∀ (i : Nat) (d : AD) c u, (d1 ++ .sl xs :: d3)[i]? = some d → i ≠ d1.length → us'[i]? = some u → ((∃ v, d = .pv v ∧ c = .pv v) ∨ c = .x (R i)) → bC Z' w' c u := by
   intro i d c u hd hi hu h
   have ht := rQ i d u hd hu
   rcases h with ⟨x, rfl, rfl⟩ | rfl
   ·cases ht with | pv _ _ h1 => exact .pv _ h1
   ·refine .x _ _ ht.one fun Zx wx hzx hbx => ?_
    have hz : ∀ b, Q i b → Z' b := fun b hb => .inr ⟨(q i b hb).1, (q i b hb).2, fun e => hi (eQ i d1.length b hb (hvb b e))⟩
    exact ⟨fun b hb => hzx b (hz b hb), d, hd, ht.keep fun b hb => hbx b (hz b hb)⟩
  have hl1 : (dt R 0 d1).length = d1.length := cO R d1 0
  have g1 : ∀ i, i < d1.length → (d1 ++ .sl xs :: d3)[i]? = d1[i]? := fun i hi => List.getElem?_append_left hi
  have g3 : ∀ i, (d1 ++ .sl xs :: d3)[d1.length + 1 + i]? = d3[i]? := fun i => by
   rw [List.getElem?_append_right (by omega), show d1.length + 1 + i - d1.length = i + 1 by omega, List.getElem?_cons_succ]
  have hval : bM Z' w' (fun i => if i = id then v else ρ i) (.agg ((dt R 0 d1).map .d ++ .own id :: (dt R (d1.length + 1) d3).map .d)) (.agg us'.toArray) := by
   refine .agg _ us' (by simp [cO, hlen]) fun i c u hc hu => ?_
   by_cases hi : i < d1.length
   ·rw [List.getElem?_append_left (by simpa [cO] using hi), List.getElem?_map] at hc
    obtain ⟨d, hd, rfl⟩ := Option.map_eq_some_iff.1 hc
    obtain ⟨d0, hd0, h⟩ := fU R hd
    rw [Nat.zero_add] at h
    exact part i d0 d u (by rw [g1 i hi]; exact hd0) (by omega) hu h
   ·rw [List.getElem?_append_right (by simpa [cO] using hi), List.length_map, hl1] at hc
    by_cases hi2 : i = d1.length
    ·subst hi2
     rw [Nat.sub_self] at hc
     simp at hc
     subst hc
     rw [List.getElem?_eq_getElem hjl, hv] at hu
     injection hu with hu
     subst hu
     exact ⟨by simp, hv1⟩
    ·obtain ⟨k, rfl⟩ : ∃ k, i = d1.length + 1 + k := ⟨i - (d1.length + 1), by omega⟩
     rw [show d1.length + 1 + k - d1.length = k + 1 by omega, List.getElem?_cons_succ, List.getElem?_map] at hc
     obtain ⟨d, hd, rfl⟩ := Option.map_eq_some_iff.1 hc
     obtain ⟨d0, hd0, h⟩ := fU R hd
     exact part _ d0 d u (by rw [g3]; exact hd0) (by omega) hu h
  have hfam : Fam w.heap.size w'.heap.size (dt R 0 d1 ++ dt R (d1.length + 1) d3) (d1 ++ d3) := by
   refine ⟨by simp [cO], fun Zx wx ux hl hr => ⟨by rw [hl]; simp [cO], fun i b => Q (if i < d1.length then i else i + 1) b ∧ Zx b, fun i b h => ⟨(q _ b h.1).1, (q _ b h.1).2, h.2⟩, fun i j b h h' => ?_, fun i a u ha hu => ?_⟩⟩
   ·have := eQ _ _ b h.1 h'.1
    split at this <;> split at this <;> omega
   ·by_cases hi : i < d1.length
    ·simp only [if_pos hi]
     rw [List.getElem?_append_left hi] at ha
     have hic : i < (dt R 0 d1).length := by rw [hl1]; exact hi
     obtain ⟨d, hd, h⟩ := fU R (List.getElem?_eq_getElem hic)
     have hrel := hr i _ u (by rw [List.getElem?_append_left hic]; exact List.getElem?_eq_getElem hic) hu
     rw [ha] at hd
     injection hd with hd
     subst hd
     rcases h with ⟨x, e1, e2⟩ | h
     ·rw [e2] at hrel; rw [e1]; cases hrel with | pv _ h1 => exact .pv _ _ h1
     ·rw [h, Nat.zero_add] at hrel
      cases hrel with
      | x _ _ h1 hR =>
       obtain ⟨hz, a', ha', ht⟩ := hR Zx wx (fun _ h => h) fun _ _ => rfl
       rw [g1 i hi, ha] at ha'
       injection ha' with ha'
       subst ha'
       exact ht.mono fun b hb => ⟨hb, hz b hb⟩
    ·simp only [if_neg hi]
     obtain ⟨k, rfl⟩ : ∃ k, i = d1.length + k := ⟨i - d1.length, by omega⟩
     rw [List.getElem?_append_right (by omega), show d1.length + k - d1.length = k by omega] at ha
     have hic : k < (dt R (d1.length + 1) d3).length := by rw [cO]; exact (List.getElem?_eq_some_iff.1 ha).1
     obtain ⟨d, hd, h⟩ := fU R (List.getElem?_eq_getElem hic)
     have hrel := hr (d1.length + k) _ u (by rw [List.getElem?_append_right (by rw [hl1]; omega), hl1, show d1.length + k - d1.length = k by omega]; exact List.getElem?_eq_getElem hic) hu
     rw [ha] at hd
     injection hd with hd
     subst hd
     rw [show d1.length + k + 1 = d1.length + 1 + k by omega]
     rcases h with ⟨x, e1, e2⟩ | h
     ·rw [e2] at hrel; rw [e1]; cases hrel with | pv _ h1 => exact .pv _ _ h1
     ·rw [h] at hrel
      cases hrel with
      | x _ _ h1 hR =>
       obtain ⟨hz, a', ha', ht⟩ := hR Zx wx (fun _ h => h) fun _ _ => rfl
       rw [g3, ha] at ha'
       injection ha' with ha'
       subst ha'
       exact ht.mono fun b hb => ⟨hb, hz b hb⟩
  exact ⟨_, _, _, Z', _, rfl, h2, hval, eS (hk R w.heap.size w'.heap.size e hs.ws.size hfam)⟩
theorem AWP.nilRow {c : Code} {K : Exit → ASt → Prop} {tm : List AV} {ob : List (Nat × AO)} (oid j id : Nat) (e : TypeId) (s : Nat) (hs : 0 < s)
  (h : sT ⟨tm, ob⟩ id (.row e s []) fun st => aOb st.ob oid fun o => match o with
   | .cells t cs => And (cs[j]? = some .nil) (dX oid (.cells t (cs.set j (.own id))) st.ob fun ob => AWP E S c K ⟨st.tm, ob⟩)
   | _ => False) : AWP E S c K ⟨tm, ob⟩ := by
 refine ⟨fun a w hw => ?_⟩
 obtain ⟨Z, ρ, hw⟩ := hw
 have h1 := hw.renew id (.slice none 0 0) (.row e s []) (row := none) (World.grownBy.refl w _) (by simp) (fun b hb => by cases hb) ⟨[], hs, rfl, by simp, by simp, by simp [World.ownsRow], by simp⟩
 have h := eS h
 obtain ⟨o, ho, h⟩ := bH h
 cases o with
 | cells t cs =>
  simp only at h
  obtain ⟨hj, h⟩ := h
  have h := bX h
  obtain ⟨b, us, hp, hg, hl, hc⟩ := (show cw Z w (fun i => if i = id then .slice none 0 0 else ρ i) oid (.cells t cs) from h1.ws.obj oid _ ho)
  refine h.run a w ⟨Z, _, h1.upd oid _ (.cells t (cs.set j (.own id))) (g := b) ho (by show aZ ((fun i => if i = id then Value.slice none 0 0 else ρ i) oid) = some b; rw [hp]; rfl) (World.grownBy.refl w _) ⟨b, us, hp, hg, by simpa using hl, fun i c u hi hu => ?_⟩⟩
  rw [List.getElem?_set] at hi
  split at hi
  ·rename_i e
   subst e
   split at hi
   ·injection hi with hi
    subst hi
    have := hc j .nil u hj hu
    have hu0 : u = .slice none 0 0 := this
    subst hu0
    exact ⟨by simp, rfl⟩
   ·cases hi
  ·exact hc i c u hi hu
 | _ => exact h.elim
end
end Go.Proofs.YtcmknngafflcnaaGreat
