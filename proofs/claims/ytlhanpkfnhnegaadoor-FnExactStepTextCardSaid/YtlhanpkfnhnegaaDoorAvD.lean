/- The operations over abstract values. -/
import Derived.Test.YtlhanpkfnhnegaaDoorAvC
set_option linter.unusedVariables false
set_option linter.unusedSimpArgs false
set_option maxRecDepth 100000
namespace Go.Proofs.YtlhanpkfnhnegaaDoor
open Go.RowKit

def aKillC (id : Nat) (c : AC) (K : AC → Prop) : Prop :=
  match c with
  | .own i => match Nat.beq i id with
    | true => K .dead
    | false => K (.own i)
  | .ref i k s off => match Nat.beq i id with
    | true => K .dead
    | false => K (.ref i k s off)
  | c => K c
theorem aKillC_get {id : Nat} {c : AC} {K : AC → Prop} (h : aKillC id c K) : K (killC id c) := by
  cases c with
  | own i =>
    simp only [aKillC] at h
    simp only [killC]
    split at h
    · rename_i e; rw [if_pos (Nat.eq_of_beq_eq_true e)]; exact h
    · rename_i e; rw [if_neg (Nat.ne_of_beq_eq_false e)]; exact h
  | ref i k s off =>
    simp only [aKillC] at h
    simp only [killC]
    split at h
    · rename_i e; rw [if_pos (Nat.eq_of_beq_eq_true e)]; exact h
    · rename_i e; rw [if_neg (Nat.ne_of_beq_eq_false e)]; exact h
  | _ => exact h
def aKillCs (id : Nat) : List AC → (List AC → Prop) → Prop
  | [], K => K []
  | c :: r, K => aKillC id c fun c' => aKillCs id r fun r' => K (c' :: r')
theorem aKillCs_get {id : Nat} : ∀ {l : List AC} {K : List AC → Prop}, aKillCs id l K → K (l.map (killC id))
  | [], _, h => h
  | c :: r, K, h => aKillCs_get (l := r) (K := fun r' => K (killC id c :: r')) (aKillC_get h)
def aKillV (id : Nat) (x : AV) (K : AV → Prop) : Prop :=
  match x with
  | .one c => aKillC id c fun c => K (.one c)
  | .agg cs => aKillCs id cs fun cs => K (.agg cs)
  | .tup _ => K (.one .dead)
theorem aKillV_get {id : Nat} {x : AV} {K : AV → Prop} (h : aKillV id x K) : K (killV id x) := by
  cases x with
  | one c => exact aKillC_get (K := fun c => K (.one c)) h
  | agg cs => exact aKillCs_get (K := fun cs => K (.agg cs)) h
  | tup vs => exact h
def aKillL (id : Nat) : List AV → (List AV → Prop) → Prop
  | [], K => K []
  | x :: r, K => aKillV id x fun x' => aKillL id r fun r' => K (x' :: r')
theorem aKillL_get {id : Nat} : ∀ {l : List AV} {K : List AV → Prop}, aKillL id l K → K (l.map (killV id))
  | [], _, h => h
  | x :: r, K, h => aKillL_get (l := r) (K := fun r' => K (killV id x :: r')) (aKillV_get h)
def aKillO (id : Nat) : List (Nat × AO) → (List (Nat × AO) → Prop) → Prop
  | [], K => K []
  | (i, .cells t cs) :: r, K => aKillCs id cs fun cs => aKillO id r fun r' => K ((i, .cells t cs) :: r')
  | (i, .row e s xs) :: r, K => aKillO id r fun r' => K ((i, .row e s xs) :: r')
theorem aKillO_get {id : Nat} : ∀ {l : List (Nat × AO)} {K : List (Nat × AO) → Prop}, aKillO id l K → K (okill id l)
  | [], _, h => h
  | (i, .cells t cs) :: r, K, h => aKillO_get (l := r) (K := fun r' => K ((i, .cells t (cs.map (killC id))) :: r')) (aKillCs_get (K := fun cs => aKillO id r fun r' => K ((i, .cells t cs) :: r')) h)
  | (i, .row e s xs) :: r, K, h => aKillO_get (l := r) (K := fun r' => K ((i, .row e s xs) :: r')) h
def aSetO (i : Nat) (o : AO) : List (Nat × AO) → (List (Nat × AO) → Prop) → Prop
  | [], K => K [(i, o)]
  | (k, x) :: r, K => match Nat.beq k i with
    | true => K ((i, o) :: r)
    | false => aSetO i o r fun r' => K ((k, x) :: r')
theorem aSetO_get {i : Nat} {o : AO} : ∀ {l : List (Nat × AO)} {K : List (Nat × AO) → Prop}, aSetO i o l K → K (oset l i o)
  | [], _, h => h
  | (k, x) :: r, K, h => by
    simp only [aSetO] at h
    unfold oset
    split at h
    · rename_i e; rw [if_pos (Nat.eq_of_beq_eq_true e)]; exact h
    · rename_i e; rw [if_neg (Nat.ne_of_beq_eq_false e)]; exact aSetO_get (l := r) (K := fun r' => K ((k, x) :: r')) h
def aOb : List (Nat × AO) → Nat → (AO → Prop) → Prop
  | [], _, _ => False
  | (k, o) :: r, i, K => match Nat.beq k i with
    | true => K o
    | false => aOb r i K
theorem aOb_get {i : Nat} {K : AO → Prop} : ∀ {l : List (Nat × AO)}, aOb l i K → ∃ o, oget l i = some o ∧ K o
  | [], h => h.elim
  | (k, o) :: r, h => by
    simp only [aOb] at h
    unfold oget
    split at h
    · rename_i e; rw [if_pos (Nat.eq_of_beq_eq_true e)]; exact ⟨o, rfl, h⟩
    · rename_i e; rw [if_neg (Nat.ne_of_beq_eq_false e)]; exact aOb_get h
theorem aOb_mk {i : Nat} {K : AO → Prop} : ∀ {l : List (Nat × AO)} {o : AO}, oget l i = some o → K o → aOb l i K
  | [], _, h, _ => by cases h
  | (k, o) :: r, o', h, hk => by
    simp only [aOb]
    unfold oget at h
    cases e : Nat.beq k i with
    | true => rw [if_pos (Nat.eq_of_beq_eq_true e)] at h; injection h with h; subst h; exact hk
    | false => rw [if_neg (Nat.ne_of_beq_eq_false e)] at h; exact aOb_mk h hk
/-- A new object under id: whatever was named so is forgotten. -/
def aNew (st : ASt) (id : Nat) (o : AO) (K : ASt → Prop) : Prop :=
  aKillL id st.tm fun tm => aKillO id st.ob fun ob => aSetO id o ob fun ob => K ⟨tm, ob⟩
theorem aNew_get {st : ASt} {id : Nat} {o : AO} {K : ASt → Prop} (h : aNew st id o K) : K ⟨(killSt id st).tm, oset (killSt id st).ob id o⟩ :=
  aSetO_get (K := fun ob => K ⟨(killSt id st).tm, ob⟩) (aKillO_get (K := fun ob => aSetO id o ob fun ob => K ⟨(killSt id st).tm, ob⟩) (aKillL_get (K := fun tm => aKillO id st.ob fun ob => aSetO id o ob fun ob => K ⟨tm, ob⟩) h))

def aSameK : IntKind → IntKind → Bool
  | .i8, .i8 | .i16, .i16 | .i32, .i32 | .i64, .i64 | .u8, .u8 | .u16, .u16 | .u32, .u32 | .u64, .u64 => true
  | _, _ => false
theorem aSameK_eq {j k : IntKind} (h : aSameK j k = true) : j = k := by cases j <;> cases k <;> first | rfl | cases h
abbrev vI (k : IntKind) (n : Int) : AV := .one (.d (.pv (.int k n)))
abbrev vB (b : Bool) : AV := .one (.d (.pv (.bool b)))
abbrev vS (s : ByteArray) : AV := .one (.d (.pv (.string s)))

def aInts (op : BinOp) (k : IntKind) (a b : Int) (K : AV → Prop) : Prop :=
  match op with
  | .add => AW k (a + b) fun c => K (vI k c)
  | .sub => AW k (a - b) fun c => K (vI k c)
  | .mul => AW k (a * b) fun c => K (vI k c)
  | .quo => b ≠ 0 ∧ AW k (a.tdiv b) fun c => K (vI k c)
  | .rem => b ≠ 0 ∧ K (vI k (a.tmod b))
  | .eql => K (vB (a == b))
  | .neq => K (vB (a != b))
  | .lss => K (vB (decide (a < b)))
  | .leq => K (vB (decide (a ≤ b)))
  | .gtr => K (vB (decide (a > b)))
  | .geq => K (vB (decide (a ≥ b)))
  | _ => False
def aStrs (op : BinOp) (a b : ByteArray) (K : AV → Prop) : Prop :=
  match op with
  | .add => a.size + b.size ≤ 9223372036854775807 ∧ K (vS (a ++ b))
  | .eql => K (vB (a.toList == b.toList))
  | .neq => K (vB (!(a.toList == b.toList)))
  | _ => False
def aBools (op : BinOp) (a b : Bool) (K : AV → Prop) : Prop :=
  match op with
  | .eql => K (vB (a == b))
  | .neq => K (vB (!(a == b)))
  | _ => False
def aBin (E : AEnv) (op : BinOp) (t : TypeId) (x y : AV) (F : Prop) (K : AV → Prop) : Prop :=
  match x, y with
  | .one (.d (.pv (.int k a))), .one (.d (.pv (.int k' b))) => match aSameK k k' with
    | true => aInts op k a b K
    | false => False
  | .one (.d (.pv (.string a))), .one (.d (.pv (.string b))) => aStrs op a b K
  | .one (.d (.pv (.bool a))), .one (.d (.pv (.bool b))) => aTI E.T t fun i => match i.kind with
    | .bool => aBools op a b K
    | _ => False
  | _, _ => F
def aUn (op : UnOp) (x : AV) (F : Prop) (K : AV → Prop) : Prop :=
  match op, x with
  | .not, .one (.d (.pv (.bool p))) => K (vB (!p))
  | .neg, .one (.d (.pv (.int k n))) => AW k (0 - n) fun c => K (vI k c)
  | _, _ => F
def aConv (E : AEnv) (src dst : TypeId) (x : AV) (F : Prop) (K : AV → Prop) : Prop :=
  match x with
  | .one (.d (.pv (.int _ n))) => aTI E.T src fun _ => aTI E.T dst fun i => match i.kind with
    | .int k => AW k n fun c => K (vI k c)
    | _ => F
  | _ => F
/-- The address of a field. -/
def aFieldAddr (E : AEnv) (t : TypeId) (x : AV) (f : Nat) (K : AV → Prop) : Prop :=
  aTI E.T t fun i => match i.kind with
  | .st fs => aNth fs f fun p => aTI E.T p.2 fun j => match j.size with
    | 0 => False
    | _ + 1 => match x with
      | .one (.ref id k s off) => K (.one (.ref id k s (off + p.1)))
      | .one (.ptr cs) => aDrop cs p.1 fun r => K (.one (.ptr r))
      | _ => False
  | _ => False
def aVal (i : TI) (cs : List AC) (K : AV → Prop) : Prop :=
  match i.agg with
  | true => aTake cs i.size fun xs => K (.agg xs)
  | false => match cs with
    | c :: _ => K (.one c)
    | [] => False
def aLoad (E : AEnv) (st : ASt) (t : TypeId) (x : AV) (K : AV → Prop) : Prop :=
  aTI E.T t fun i => match x with
  | .one (.ref id k s off) => aOb st.ob id fun o => match o with
    | .cells _ cs => match k with
      | 0 => aDrop cs off fun r => aVal i r K
      | _ + 1 => False
    | .row _ s' xs => match Nat.beq s s' with
      | true => AIx xs k fun _ x => aDrop x off fun r => aMapD r fun r => aVal i r K
      | false => False
  | .one (.ptr cs) => aMapD cs fun cs => aVal i cs K
  | _ => False
def aSolid : List AC → Bool
  | [] => true
  | .dead :: _ => false
  | .und :: _ => false
  | _ :: r => aSolid r
/-- The cells of a value that is stored. -/
def aCells (x : AV) (K : List AC → Prop) : Prop :=
  match x with
  | .one c => match aSolid [c] with
    | true => K [c]
    | false => False
  | .agg cs => match aSolid cs with
    | true => K cs
    | false => False
  | .tup _ => False
def aLenIs : List AC → Nat → Bool
  | [], 0 => true
  | _ :: r, n + 1 => aLenIs r n
  | _, _ => false
theorem aLenIs_eq : ∀ {l : List AC} {n : Nat}, aLenIs l n = true → l.length = n
  | [], 0, _ => rfl
  | _ :: r, n + 1, h => by rw [List.length_cons, aLenIs_eq (l := r) (n := n) h]
  | [], _ + 1, h => by cases h
  | _ :: _, 0, h => by cases h
def aStore (E : AEnv) (st : ASt) (t : TypeId) (x v : AV) (K : ASt → Prop) : Prop :=
  aTI E.T t fun i => aCells v fun vs => match aLenIs vs i.size with
  | false => False
  | true => match x with
    | .one (.ref id k s off) => aOb st.ob id fun o => match o with
      | .cells u cs => match k with
        | 0 => aSplice cs off vs fun cs' => match st with
          | ⟨tm, ob⟩ => aSetO id (.cells u cs') ob fun ob => K ⟨tm, ob⟩
        | _ + 1 => False
      | .row e s' xs => match Nat.beq s s' with
        | true => AIx xs k fun k x => aMapD x fun x => aSplice x off vs fun x' => aToD x' fun x' => match st with
          | ⟨tm, ob⟩ => aSetO id (.row e s' (xs.set k x')) ob fun ob => K ⟨tm, ob⟩
        | false => False
    | _ => False
def aZero (z : Value) (K : List AC → Prop) : Prop :=
  match z with
  | .agg cs => aOfL cs.toList fun l => match aSolid l with
    | true => K l
    | false => False
  | v => aOfC v fun c => match aSolid [c] with
    | true => K [c]
    | false => False
/-- Parts laid into cells. -/
def aFill (st : ASt) (place : Nat → (Nat × Nat → Prop) → Prop) : List (Nat × Operand) → List AC → (List AC → Prop) → Prop
  | [], l, K => K l
  | (i, x) :: r, l, K => place i fun p => aEv st x fun v => aCells v fun vs => match aLenIs vs p.2 with
    | true => aSplice l p.1 vs fun l' => aFill st place r l' K
    | false => False
def aPlaces (E : AEnv) : List (Nat × TypeId) → (List (Nat × Nat) → Prop) → Prop
  | [], K => K []
  | p :: r, K => aTI E.T p.2 fun j => aPlaces E r fun q => K ((p.1, j.size) :: q)
def aBuild (E : AEnv) (st : ASt) (t : TypeId) (parts : List (Nat × Operand)) (K : AV → Prop) : Prop :=
  aTI E.T t fun i => aZero i.zero fun z => match i.kind with
  | .st fs => aPlaces E fs fun places => aFill st (fun n K => aNth places n K) parts z fun l => K (.agg l)
  | .arr _ e => aTI E.T e fun j => aFill st (fun n K => K (n * j.size, j.size)) parts z fun l => K (.agg l)
  | _ => False
/-- Elements, one behind the other, as many as n. -/
def aElems (st : ASt) (s : Nat) : List (Nat × Operand) → (at_ n : Nat) → (List (List AD) → Prop) → Prop
  | [], a, n, K => match Nat.beq a n with
    | true => K []
    | false => False
  | (i, x) :: r, a, n, K => match Nat.beq i a with
    | true => aEv st x fun v => aCells v fun vs => match aLenIs vs s with
      | true => aToD vs fun ds => aElems st s r (a + 1) n fun r' => K (ds :: r')
      | false => False
    | false => False
def aRowNew (E : AEnv) (st : ASt) (d : Option Tmp) (e : TypeId) (xs : List (List AD)) (K : ASt → Prop) : Prop :=
  aTI E.T e fun j => match j.size with
  | 0 => False
  | s + 1 => match d with
    | some d => aNew st d (.row e (s + 1) xs) fun st => aDst st (some d) (.one (.own d)) K
    | none => False
def aBuildSlice (E : AEnv) (st : ASt) (d : Option Tmp) (t : TypeId) (n : Nat) (parts : List (Nat × Operand)) (K : ASt → Prop) : Prop :=
  aTI E.T t fun i => match i.kind with
  | .sl e => aTI E.T e fun j => match Nat.ble (n * j.size) 16777216 with
    | true => aElems st j.size parts 0 n fun xs => aRowNew E st d e xs K
    | false => False
  | _ => False
/-- The elements of a slice. -/
def aRowOf (st : ASt) (x : AV) (K : List (List AD) → Prop) : Prop :=
  match x with
  | .one .nil => K []
  | .one (.d (.sl xs)) => K xs
  | .one (.own id) => aOb st.ob id fun o => match o with
    | .row _ _ xs => K xs
    | _ => False
  | _ => False
/-- The elements of a slice, each of s cells. -/
def aRowS (st : ASt) (s : Nat) (x : AV) (K : List (List AD) → Prop) : Prop :=
  match x with
  | .one .nil => K []
  | .one (.d (.sl xs)) => (∀ x ∈ xs, x.length = s) ∧ K xs
  | .one (.own id) => aOb st.ob id fun o => match o with
    | .row _ s' xs => match Nat.beq s s' with
      | true => K xs
      | false => False
    | _ => False
  | _ => False
def aAppend (E : AEnv) (st : ASt) (d : Option Tmp) (t t2 : TypeId) (x y : AV) (K : ASt → Prop) : Prop :=
  match Nat.beq t t2 with
  | false => False
  | true => aTI E.T t fun i => match i.kind with
    | .sl e => aTI E.T e fun j => match j.size, j.bytes with
      | s + 1, b + 1 => aRowS st (s + 1) y fun ys => match x with
        | .one .nil => (ys.length * (b + 1) ≤ 140737488355328) ∧ aRowNew E st d e ys K
        | .one (.own id) => aOb st.ob id fun o => match o with
          | .row e' s' xs => match Nat.beq e e', Nat.beq (s + 1) s' with
            | true, true => ((xs.length + ys.length) * (b + 1) ≤ 140737488355328) ∧ aNew st id (.row e (s + 1) (xs ++ ys)) fun st => aDst st d (.one (.own id)) K
            | _, _ => False
          | _ => False
        | _ => False
      | _, _ => False
    | _ => False
def aMake (E : AEnv) (st : ASt) (d : Option Tmp) (t : TypeId) (x y : AV) (K : ASt → Prop) : Prop :=
  match x, y with
  | .one (.d (.pv (.int _ n))), .one (.d (.pv (.int _ m))) => aTI E.T t fun i => match i.kind with
    | .sl e => aTI E.T e fun j => aZero j.zero fun z => aToD z fun z => ∃ k : Nat, n = (k : Int) ∧ m = (k : Int) ∧ j.bytes * k ≤ 281474976710656 ∧ k ≤ 140737488355328 ∧ aRowNew E st d e (List.replicate k z) K
    | _ => False
  | _, _ => False
def aLen (E : AEnv) (st : ASt) (t : TypeId) (x : AV) (F : Prop) (K : AV → Prop) : Prop :=
  match x with
  | .one (.d (.pv (.string s))) => aTI E.T t fun i => match i.kind with
    | .str => K (vI .i64 s.size)
    | _ => F
  | _ => aTI E.T t fun i => match i.kind with
    | .sl _ => aRowOf st x fun xs => K (vI .i64 xs.length)
    | _ => F
def aLenD : List AD → Nat → Bool
  | [], 0 => true
  | _ :: r, n + 1 => aLenD r n
  | _, _ => false
theorem aLenD_eq : ∀ {l : List AD} {n : Nat}, aLenD l n = true → l.length = n
  | [], 0, _ => rfl
  | _ :: r, n + 1, h => by rw [List.length_cons, aLenD_eq (l := r) (n := n) h]
  | [], _ + 1, h => by cases h
  | _ :: _, 0, h => by cases h
def aIndexAddr (E : AEnv) (st : ASt) (t : TypeId) (x i : AV) (K : AV → Prop) : Prop :=
  match i with
  | .one (.d (.pv (.int _ n))) => aTI E.T t fun ti => match ti.kind with
    | .sl e => aTI E.T e fun j => match j.size with
      | 0 => False
      | s + 1 => match x with
        | .one (.d (.sl xs)) => AIx xs n fun _ x => match aLenD x (s + 1) with
          | true => K (.one (.ptr x))
          | false => False
        | .one (.own id) => aOb st.ob id fun o => match o with
          | .row _ s' xs => match Nat.beq (s + 1) s' with
            | true => AIx xs n fun k _ => K (.one (.ref id k (s + 1) 0))
            | false => False
          | _ => False
        | _ => False
    | _ => False
  | _ => False
def aIndex (E : AEnv) (t : TypeId) (x i : AV) (F : Prop) (K : AV → Prop) : Prop :=
  match x, i with
  | .one (.d (.pv (.string s))), .one (.d (.pv (.int _ n))) => aTI E.T t fun ti => match ti.kind with
    | .str => ∃ (k : Nat) (b : UInt8), n = (k : Int) ∧ s[k]? = some b ∧ K (vI .u8 b.toNat)
    | _ => F
  | _, _ => F
def aBound (st : ASt) (x : Option Operand) (K : Option Int → Prop) : Prop :=
  match x with
  | none => K none
  | some x => aEv st x fun v => match v with
    | .one (.d (.pv (.int _ n))) => K (some n)
    | _ => False
/-- The part of a row, or of a string, from lo to hi. -/
def loIs (lo : Option Int) (l : Nat) : Prop :=
  match lo with
  | none => l = 0
  | some n => n = (l : Int)
def hiIs (len : Nat) (hi : Option Int) (h : Nat) : Prop :=
  match hi with
  | none => h = len
  | some n => n = (h : Int)
def aCut (len : Nat) (lo hi : Option Int) (K : Nat → Nat → Prop) : Prop :=
  ∃ l h : Nat, loIs lo l ∧ hiIs len hi h ∧ l ≤ h ∧ h ≤ len ∧ K l h
def aSliceB (E : AEnv) (x : AV) (lo hi : Option Int) (F : Prop) (K : AV → Prop) (i : TI) : Prop :=
  match x with
  | .one (.d (.pv (.string s))) => match i.kind with
    | .str => aCut s.size lo hi fun l h => K (vS (s.extract l h))
    | _ => F
  | .one (.d (.sl xs)) => match i.kind with
    | .sl e => aTI E.T e fun j => aCut xs.length lo hi fun l h => (∀ x ∈ xs, x.length = j.size) ∧ K (.one (.d (.sl ((xs.take h).drop l))))
    | _ => F
  | _ => F
def aSlice (E : AEnv) (st : ASt) (t : TypeId) (x : AV) (lo hi : Option Operand) (F : Prop) (K : AV → Prop) : Prop :=
  aBound st lo fun lo => aBound st hi fun hi => aTI E.T t (aSliceB E x lo hi F K)
def aField (E : AEnv) (t : TypeId) (x : AV) (f : Nat) (K : AV → Prop) : Prop :=
  match x with
  | .agg cs => aTI E.T t fun i => match i.kind with
    | .st fs => aNth fs f fun p => aTI E.T p.2 fun j => aDrop cs p.1 fun r => aVal j r K
    | _ => False
  | _ => False
def aBox (st : ASt) (d : Option Tmp) (t : TypeId) (cs : List AC) (K : ASt → Prop) : Prop :=
  match d with
  | some d => aKillCs d cs fun cs => aNew st d (.cells t cs) fun st => aDst st (some d) (.one (.ref d 0 0 0)) K
  | none => False
def aMax (k : IntKind) (x y : Int) (K : AV → Prop) : Prop := K (vI k (if y > x then y else x))
def aInt2 (x y : AV) (F : Prop) (K : IntKind → Int → Int → Prop) : Prop :=
  match x with
  | .one (.d (.pv (.int k a))) => match y with
    | .one (.d (.pv (.int _ b))) => K k a b
    | _ => F
  | _ => F
def aLenB (E : AEnv) (ts : List TypeId) (args : List AV) (st : ASt) (d : Option Tmp) (F : Prop) (K : ASt → Prop) : Prop :=
  match ts with
  | t :: _ => match args with
    | [x] => aLen E st t x F fun v => aDst st d v K
    | _ => F
  | _ => F
def aAppB (E : AEnv) (ts : List TypeId) (args : List AV) (st : ASt) (d : Option Tmp) (F : Prop) (K : ASt → Prop) : Prop :=
  match ts with
  | [t, t2] => match args with
    | [x, y] => aAppend E st d t t2 x y K
    | _ => F
  | _ => F
def aBuiltin (E : AEnv) (b : Builtin) (ts : List TypeId) (args : List AV) (st : ASt) (d : Option Tmp) (F : Prop) (K : ASt → Prop) : Prop :=
  match b with
  | .len => aLenB E ts args st d F K
  | .append => aAppB E ts args st d F K
  | .max => match args with
    | [x, y] => aInt2 x y F fun k a b => aDst st d (vI k (if b > a then b else a)) K
    | _ => F
  | .min => match args with
    | [x, y] => aInt2 x y F fun k a b => aDst st d (vI k (if b < a then b else a)) K
    | _ => F
  | _ => F
def aop (E : AEnv) (S : Base) (o : Oper) (st : ASt) (K : ASt → Prop) : Prop :=
  match o.op with
  | .move x | .assign x => aEv st x fun v => aDst st o.dst v K
  | .pick c a b => aEv st c fun c => aBool c (aEv st a fun v => aDst st o.dst v K) (aEv st b fun v => aDst st o.dst v K)
  | .binOp op t x y _ => aEv st x fun x => aEv st y fun y => aBin E op t x y (AOp E S o st K) fun v => aDst st o.dst v K
  | .unOp op _ x => aEv st x fun x => aUn op x (AOp E S o st K) fun v => aDst st o.dst v K
  | .convert s d x => aEv st x fun x => aConv E s d x (AOp E S o st K) fun v => aDst st o.dst v K
  | .fieldAddr t x f => aEv st x fun x => aFieldAddr E t x f fun v => aDst st o.dst v K
  | .load t x => aEv st x fun x => aLoad E st t x fun v => aDst st o.dst v K
  | .store t x v => aEv st x fun x => aEv st v fun v => aStore E st t x v fun st => aDst st o.dst (.one .und) K
  | .box t x => aEv st x fun x => aCells x fun cs => aBox st o.dst t cs K
  | .alloc t => aTI E.T t fun i => aZero i.zero fun cs => aBox st o.dst t cs K
  | .build t ps => aBuild E st t ps.toList fun v => aDst st o.dst v K
  | .buildSlice t n ps => aBuildSlice E st o.dst t n ps.toList K
  | .makeSlice t l c => aEv st l fun l => aEv st c fun c => aMake E st o.dst t l c K
  | .slice t x lo hi none => aEv st x fun x => aSlice E st t x lo hi (AOp E S o st K) fun v => aDst st o.dst v K
  | .indexAddr t x i => aEv st x fun x => aEv st i fun i => aIndexAddr E st t x i fun v => aDst st o.dst v K
  | .index t x i => aEv st x fun x => aEv st i fun i => aIndex E t x i (AOp E S o st K) fun v => aDst st o.dst v K
  | .field t x f => aEv st x fun x => aField E t x f fun v => aDst st o.dst v K
  | .extract x i => aEv st x fun x => match x with
    | .tup vs => aNth vs i fun v => aDst st o.dst v K
    | _ => False
  | .nilCheck x => aEv st x fun x => match x with
    | .one (.ref i k s off) => aDst st o.dst (.one (.ref i k s off)) K
    | .one (.ptr cs) => aDst st o.dst (.one (.ptr cs)) K
    | .one (.d (.pv (.func (.func f) a c))) => aDst st o.dst (.one (.d (.pv (.func (.func f) a c)))) K
    | _ => AOp E S o st K
  | .call c => match c.callee with
    | .builtin b => aEvL st c.args.toList fun args => aBuiltin E b c.argTypes.toList args st o.dst (AOp E S o st K) K
    | .value f => aEv st f fun f => match f with
      | .one (.d (.pv (.func (.func f) first caps))) => match first.toList, caps.toList with
        | [], [] => aEvL st c.args.toList fun args => ACall E S f args st fun r st => aDst st o.dst r K
        | _, _ => AOp E S o st K
      | _ => AOp E S o st K
    | _ => AOp E S o st K
  | _ => AOp E S o st K
def aLit (b : Bool) : AV := .one (.d (.pv (.bool b)))
def aGuard (all : List Oper) (o : Oper) (st : ASt) (Y N : ASt → Prop) : Prop :=
  match o.guard with
  | none => Y st
  | some (j, want) => aNth all j fun oj => match oj.dst with
    | none => False
    | some d => aTm st.tm d fun v => match v with
      | .one (.d (.pv (.bool p))) => match st with
        | ⟨tm, ob⟩ => AB p (aPutL tm d (vB true) fun tm => match want with
          | true => Y ⟨tm, ob⟩
          | false => N ⟨tm, ob⟩) (aPutL tm d (vB false) fun tm => match want with
          | true => N ⟨tm, ob⟩
          | false => Y ⟨tm, ob⟩)
      | .one .und => N st
      | _ => False
def arun (E : AEnv) (S : Base) (all : List Oper) : List Oper → ASt → (ASt → Prop) → Prop
  | [], st, K => K st
  | o :: r, st, K => aGuard all o st (fun st => aop E S o st fun st => arun E S all r st K) (fun st => aDst st o.dst (.one .und) fun st => arun E S all r st K)
end Go.Proofs.YtlhanpkfnhnegaaDoor
