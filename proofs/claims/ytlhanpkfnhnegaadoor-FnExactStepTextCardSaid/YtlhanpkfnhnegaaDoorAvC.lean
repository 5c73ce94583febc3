/- Running over abstract values: operands, operations, regions. What each asks is said without a world. -/
import Derived.Test.YtlhanpkfnhnegaaDoorAvB
set_option linter.unusedVariables false
set_option linter.unusedSimpArgs false
set_option maxRecDepth 100000
namespace Go.Proofs.YtlhanpkfnhnegaaDoor
open Go.RowKit

inductive TK where
  | st (fs : List (Nat × TypeId)) | sl (e : TypeId) | arr (n : Nat) (e : TypeId) | str | bool | int (k : IntKind) | ptr (e : TypeId) | oth
def kindOf : TypeDesc → TK
  | .struct fs => .st (fs.toList.map fun f => (f.offset, f.type))
  | .slice e => .sl e
  | .array n e => .arr n e
  | .string => .str
  | .bool => .bool
  | .int k => .int k
  | .pointer e => .ptr e
  | _ => .oth
structure TI where
  size : Nat
  bytes : Nat
  agg : Bool
  kind : TK
  zero : Value
structure TyFact (P : Program) (t : TypeId) (i : TI) : Prop where
  sz : ∀ w, (sizeOf t).run P w = .ok i.size w
  ag : ∀ w, (isAgg t).run P w = .ok i.agg w
  kd : (P.underlying t).map kindOf = some i.kind
  info : (P.info? t).map (fun j => (j.zero, j.size, j.bytes)) = some (some i.zero, i.size, i.bytes)
  zs : i.zero.cells.size = i.size
/-- A table of types, found by number. -/
inductive TT where
  | leaf
  | node (k : Nat) (i : TI) (l r : TT)
def TT.get : TT → Nat → Option TI
  | .leaf, _ => none
  | .node k i l r, t => match Nat.beq t k with
    | true => some i
    | false => match Nat.ble t k with
      | true => l.get t
      | false => r.get t
def TT.ok (P : Program) : TT → Prop
  | .leaf => True
  | .node k i l r => TyFact P k i ∧ l.ok P ∧ r.ok P
theorem TT.get_ok {P : Program} : ∀ {T : TT}, T.ok P → ∀ {t : Nat} {i : TI}, T.get t = some i → TyFact P t i
  | .leaf, _, _, _, h => by cases h
  | .node k i l r, ⟨h1, h2, h3⟩, t, j, h => by
    simp only [TT.get] at h
    split at h
    · rename_i e
      injection h with h
      subst h
      rw [Nat.eq_of_beq_eq_true e]
      exact h1
    · split at h
      · exact TT.get_ok h2 h
      · exact TT.get_ok h3 h
/-- What is fixed for a seat: the program, a table of its types, a fact on the world. -/
structure AEnv where
  P : Program
  T : TT
  W : World → Prop
structure AEnv.Ok (E : AEnv) : Prop where
  ty : E.T.ok E.P
  mixed : E.P.follows .mixedOrders = true
  below : ∀ w w', E.W w → Below w.heap.size w w' → E.W w'

/-! The list words, each handing its answer on. -/
def aTm : List AV → Nat → (AV → Prop) → Prop
  | [], _, _ => False
  | x :: _, 0, K => K x
  | _ :: r, n + 1, K => aTm r n K
theorem aTm_get {K : AV → Prop} : ∀ {l : List AV} {n : Nat}, aTm l n K → ∃ x, l[n]? = some x ∧ K x
  | [], _, h => h.elim
  | x :: _, 0, h => ⟨x, rfl, h⟩
  | _ :: r, n + 1, h => by obtain ⟨x, h1, h2⟩ := aTm_get (l := r) (n := n) h; exact ⟨x, by simpa using h1, h2⟩
def aPutL : List AV → Nat → AV → (List AV → Prop) → Prop
  | [], _, _, _ => False
  | _ :: r, 0, v, K => K (v :: r)
  | x :: r, n + 1, v, K => aPutL r n v fun r' => K (x :: r')
theorem aPutL_set {v : AV} : ∀ {l : List AV} {n : Nat} {K : List AV → Prop}, aPutL l n v K → K (l.set n v)
  | [], _, _, h => h.elim
  | _ :: _, 0, _, h => h
  | x :: r, n + 1, K, h => aPutL_set (l := r) (n := n) (K := fun r' => K (x :: r')) h
def aDst (st : ASt) (d : Option Tmp) (v : AV) (K : ASt → Prop) : Prop :=
  match d with
  | none => K st
  | some i => match st with
    | ⟨tm, ob⟩ => aPutL tm i v fun tm => K ⟨tm, ob⟩
theorem aDst_put {st : ASt} {d : Option Tmp} {v : AV} {K : ASt → Prop} (h : aDst st d v K) : K ⟨putT st.tm d v, st.ob⟩ := by
  cases d with
  | none => exact h
  | some i => exact aPutL_set (K := fun tm => K ⟨tm, st.ob⟩) h
def ofC : Value → AC
  | .slice none 0 0 => .nil
  | .agg _ => .dead
  | .tuple _ => .dead
  | v => .d (.pv v)
def aOfC (v : Value) (K : AC → Prop) : Prop :=
  match v with
  | .slice none 0 0 => K .nil
  | .agg _ => K .dead
  | .tuple _ => K .dead
  | v => K (.d (.pv v))
theorem aOfC_get {v : Value} {K : AC → Prop} (h : aOfC v K) : K (ofC v) := by
  unfold aOfC at h
  unfold ofC
  split at h <;> exact h
def aOfL : List Value → (List AC → Prop) → Prop
  | [], K => K []
  | v :: r, K => aOfC v fun c => aOfL r fun r' => K (c :: r')
theorem aOfL_map : ∀ {l : List Value} {K : List AC → Prop}, aOfL l K → K (l.map ofC)
  | [], _, h => h
  | v :: r, K, h => aOfL_map (l := r) (K := fun r' => K (ofC v :: r')) (aOfC_get (K := fun c => aOfL r fun r' => K (c :: r')) h)
theorem ofC_rel (Z : Nat → Prop) (w : World) (ρ : Nat → Value) (v : Value) : RelC Z w ρ (ofC v) v := by
  unfold ofC
  split
  · rfl
  · trivial
  · trivial
  · refine RelD.pv v ?_
    unfold Value.oneCell'
    split <;> simp_all
def aEv (st : ASt) (x : Operand) (K : AV → Prop) : Prop :=
  match x with
  | .tmp t => aTm st.tm t K
  | .const (.agg cs) => aOfL cs.toList fun l => K (.agg l)
  | .const v => aOfC v fun c => K (.one c)
  | .func f => K (.one (.d (.pv (.func (.func f) #[] #[]))))
  | .global _ => False
theorem aEv_get {T : World → Prop} {S : Base} {Z : Nat → Prop} {ρ : Nat → Value} {st : ASt} {a : Act} {w : World} (h : Sim T S Z ρ st a w) {x : Operand} {K : AV → Prop} (hk : aEv st x K) : ∃ v, RelV Z w ρ v (a.eval x) ∧ K v := by
  cases x with
  | tmp t =>
    obtain ⟨v, hv, hk⟩ := aTm_get hk
    have hlt : t < a.tmps.size := by rw [h.len]; exact (List.getElem?_eq_some_iff.1 hv).1
    refine ⟨v, h.tm t v _ hv ?_, hk⟩
    simp [Act.eval, hlt]
  | const v =>
    cases v with
    | agg cs =>
      refine ⟨_, ?_, aOfL_map hk⟩
      have : (Value.agg cs) = .agg cs.toList.toArray := by simp
      simp only [Act.eval]
      rw [this]
      refine .agg _ _ (by simp) fun i c u hc hu => ?_
      rw [List.getElem?_map] at hc
      obtain ⟨u0, h0, rfl⟩ := Option.map_eq_some_iff.1 hc
      rw [hu] at h0
      injection h0 with h0
      subst h0
      exact ofC_rel ..
    | _ => exact ⟨_, .one _ _ (ofC_rel ..), aOfC_get (K := fun c => K (.one c)) hk⟩
  | func f => exact ⟨_, .one (.d (.pv (.func (.func f) #[] #[]))) _ (show RelD Z w (.pv (.func (.func f) #[] #[])) (.func (.func f) #[] #[]) from .pv _ rfl), hk⟩
  | global g => exact hk.elim
def aEvL (st : ASt) : List Operand → (List AV → Prop) → Prop
  | [], K => K []
  | x :: r, K => aEv st x fun v => aEvL st r fun r' => K (v :: r')
theorem aEvL_get {T : World → Prop} {S : Base} {Z : Nat → Prop} {ρ : Nat → Value} {st : ASt} {a : Act} {w : World} (h : Sim T S Z ρ st a w) : ∀ {xs : List Operand} {K : List AV → Prop}, aEvL st xs K → ∃ vs, vs.length = xs.length ∧ (∀ (i : Nat) x v, xs[i]? = some x → vs[i]? = some v → RelV Z w ρ v (a.eval x)) ∧ K vs
  | [], _, hk => ⟨[], rfl, by simp, hk⟩
  | x :: r, K, hk => by
    obtain ⟨v, hv, hk⟩ := aEv_get h hk
    obtain ⟨vs, hl, hr, hk⟩ := aEvL_get h (xs := r) hk
    refine ⟨v :: vs, by simp [hl], fun i y u hy hu => ?_, hk⟩
    cases i with
    | zero => simp at hy hu; subst hy hu; exact hv
    | succ i => exact hr i y u (by simpa using hy) (by simpa using hu)

/-- A condition decides. -/
structure AB (p : Bool) (X Y : Prop) : Prop where
  t : p = true → X
  f : p = false → Y
/-- A sum, kept within its kind. -/
structure AW (k : IntKind) (n : Int) (K : Int → Prop) : Prop where
  h : ∃ c, k.wrap n = c ∧ K c
/-- An element is picked. -/
structure AIx (xs : List (List AD)) (n : Int) (K : Nat → List AD → Prop) : Prop where
  h : ∃ (k : Nat) (x : List AD), n = (k : Int) ∧ xs[k]? = some x ∧ K k x
/-- An operation that the words below do not know. -/
structure AOp (E : AEnv) (S : Base) (o : Oper) (st : ASt) (K : ASt → Prop) : Prop where
  run : ∀ a w Q, SimX E.W S st a w → Oper.wp E.P o a w (fun a' w' => ∃ st', SimX E.W S st' a' w' ∧ K st') Q
theorem AB.tt {X Y : Prop} (h : X) : AB true X Y := ⟨fun _ => h, fun e => (by cases e)⟩
theorem AB.ff {X Y : Prop} (h : Y) : AB false X Y := ⟨fun e => (by cases e), fun _ => h⟩
structure ACall (E : AEnv) (S : Base) (f : FuncId) (args : List AV) (st : ASt) (K : AV → ASt → Prop) : Prop where
  enter : ∀ (us : Array Value) w, (callFunc f us).run E.P w = .ok (.enter f us) w
  run : ∀ Z ρ a w (us : List Value), Sim E.W S Z ρ st a w → us.length = args.length → (∀ (i : Nat) x u, args[i]? = some x → us[i]? = some u → RelV Z w ρ x u) →
    Calls E.P f us.toArray w fun e w' => ∃ v r st' Z' ρ', e = .returned v ∧ Sim E.W S Z' ρ' st' a w' ∧ RelV Z' w' ρ' r v ∧ K r st'

def aBool (v : AV) (X Y : Prop) : Prop :=
  match v with
  | .one (.d (.pv (.bool p))) => AB p X Y
  | _ => False
def aTI (T : TT) (t : TypeId) (K : TI → Prop) : Prop :=
  match T.get t with
  | some i => K i
  | none => False
def aNth {α : Type} : List α → Nat → (α → Prop) → Prop
  | [], _, _ => False
  | x :: _, 0, K => K x
  | _ :: r, n + 1, K => aNth r n K
theorem aNth_get {α : Type} {K : α → Prop} : ∀ {l : List α} {n : Nat}, aNth l n K → ∃ x, l[n]? = some x ∧ K x
  | [], _, h => h.elim
  | x :: _, 0, h => ⟨x, rfl, h⟩
  | _ :: r, n + 1, h => by obtain ⟨x, h1, h2⟩ := aNth_get (l := r) (n := n) h; exact ⟨x, by simpa using h1, h2⟩
def aDrop {α : Type} : List α → Nat → (List α → Prop) → Prop
  | l, 0, K => K l
  | [], _ + 1, _ => False
  | _ :: r, n + 1, K => aDrop r n K
theorem aDrop_get {α : Type} {K : List α → Prop} : ∀ {l : List α} {n : Nat}, aDrop l n K → n ≤ l.length ∧ K (l.drop n)
  | l, 0, h => ⟨Nat.zero_le _, by cases l <;> exact h⟩
  | [], _ + 1, h => h.elim
  | _ :: r, n + 1, h => by obtain ⟨h1, h2⟩ := aDrop_get (l := r) (n := n) h; exact ⟨by simpa using h1, h2⟩
def aTake {α : Type} : List α → Nat → (List α → Prop) → Prop
  | _, 0, K => K []
  | [], _ + 1, _ => False
  | x :: r, n + 1, K => aTake r n fun r' => K (x :: r')
theorem aTake_get {α : Type} : ∀ {l : List α} {n : Nat} {K : List α → Prop}, aTake l n K → n ≤ l.length ∧ K (l.take n)
  | l, 0, _, h => ⟨Nat.zero_le _, by cases l <;> exact h⟩
  | [], _ + 1, _, h => h.elim
  | x :: r, n + 1, K, h => by obtain ⟨h1, h2⟩ := aTake_get (l := r) (n := n) (K := fun r' => K (x :: r')) h; exact ⟨by simpa using h1, h2⟩
def aMapD : List AD → (List AC → Prop) → Prop
  | [], K => K []
  | x :: r, K => aMapD r fun r' => K (.d x :: r')
theorem aMapD_get : ∀ {l : List AD} {K : List AC → Prop}, aMapD l K → K (l.map .d)
  | [], _, h => h
  | x :: r, K, h => aMapD_get (l := r) (K := fun r' => K (.d x :: r')) h
def aToD : List AC → (List AD → Prop) → Prop
  | [], K => K []
  | .d x :: r, K => aToD r fun r' => K (x :: r')
  | .nil :: r, K => aToD r fun r' => K (.sl [] :: r')
  | _ :: _, _ => False
/-- cells overwritten from off on -/
def aSplice : List AC → Nat → List AC → (List AC → Prop) → Prop
  | l, 0, [], K => K l
  | _ :: r, 0, x :: xs, K => aSplice r 0 xs fun r' => K (x :: r')
  | c :: r, n + 1, xs, K => aSplice r n xs fun r' => K (c :: r')
  | _, _, _, _ => False
theorem aSplice_get : ∀ {l : List AC} {n : Nat} {xs : List AC} {K : List AC → Prop}, aSplice l n xs K → n + xs.length ≤ l.length ∧ ∃ l', K l' ∧ l'.length = l.length ∧ ∀ (i : Nat) (c : AC), l'[i]? = some c → (n ≤ i ∧ xs[i - n]? = some c) ∨ ((i < n ∨ n + xs.length ≤ i) ∧ l[i]? = some c)
  | l, 0, [], K, h => ⟨by simp, l, by cases l <;> exact h, rfl, fun i c hc => .inr ⟨by simp, hc⟩⟩
  | _ :: r, 0, x :: xs, K, h => by
    obtain ⟨h1, l', hk, hl, hc⟩ := aSplice_get (l := r) (n := 0) (xs := xs) (K := fun r' => K (x :: r')) h
    refine ⟨by simp at h1 ⊢; omega, x :: l', hk, by simp [hl], fun i c hi => ?_⟩
    cases i with
    | zero => exact .inl ⟨Nat.zero_le _, by simpa using hi⟩
    | succ i =>
      rcases hc i c (by simpa using hi) with ⟨h2, h3⟩ | ⟨h2, h3⟩
      · exact .inl ⟨Nat.zero_le _, by simpa using h3⟩
      · exact .inr ⟨by simp at h2 ⊢; omega, by simpa using h3⟩
  | c0 :: r, n + 1, xs, K, h => by
    have h' : aSplice r n xs (fun r' => K (c0 :: r')) := by cases xs <;> exact h
    obtain ⟨h1, l', hk, hl, hc⟩ := aSplice_get h'
    refine ⟨by simp; omega, c0 :: l', hk, by simp [hl], fun i c hi => ?_⟩
    cases i with
    | zero => exact .inr ⟨.inl (by omega), by simpa using hi⟩
    | succ i =>
      rcases hc i c (by simpa using hi) with ⟨h2, h3⟩ | ⟨h2, h3⟩
      · exact .inl ⟨by omega, by simpa [Nat.succ_sub_succ] using h3⟩
      · exact .inr ⟨by omega, by simpa using h3⟩
  | [], 0, _ :: _, _, h => h.elim
  | [], _ + 1, [], _, h => h.elim
  | [], _ + 1, _ :: _, _, h => h.elim
end Go.Proofs.YtlhanpkfnhnegaaDoor
