/- Regions that draw their order: operations that read, call or make memory, each from what it needs alone. -/
import Derived.Test.YtlhanpkfnhnegaaDoorAvI
set_option linter.unusedVariables false
set_option linter.unusedSimpArgs false
set_option maxRecDepth 100000
namespace Go.Proofs.YtlhanpkfnhnegaaDoor
open Go.RowKit

/-- A call that hands back data. -/
structure AFCall (E : AEnv) (ob : List (Nat × AO)) (f : FuncId) (args : List AV) (K : AV → Prop) : Prop where
  h : ∃ ps res, PCall E f ps res ∧ (aPs args (· = ps) ∨ (aRs ob args (· = ps) ∧ res.scalar = true)) ∧ K res.v
/-- No word of object id. -/
def noIdC (id : Nat) : AC → Bool
  | .own i => !Nat.beq i id
  | .ref i _ _ _ => !Nat.beq i id
  | _ => true
def noIdCs (id : Nat) : List AC → Bool
  | [] => true
  | c :: r => match noIdC id c with
    | true => noIdCs id r
    | false => false
def aFBox (d : Option Tmp) (t : TypeId) (cs : List AC) (K : AV → Option AO → Prop) : Prop :=
  match d with
  | some d => match noIdCs d cs with
    | true => K (.one (.ref d 0 0 0)) (some (.cells t cs))
    | false => False
  | none => False
/-- A free operation: what it hands back, and the object that it makes. -/
def afree (E : AEnv) (o : Oper) (st : ASt) (K : AV → Option AO → Prop) : Prop :=
  match o.op with
  | .move x | .assign x => aEv st x fun v => K v none
  | .pick c a b => aEv st c fun c => aBool c (aEv st a fun v => K v none) (aEv st b fun v => K v none)
  | .binOp op t x y _ => aEv st x fun x => aEv st y fun y => aBin E op t x y False fun v => K v none
  | .unOp op _ x => aEv st x fun x => aUn op x False fun v => K v none
  | .convert s d x => aEv st x fun x => aConv E s d x False fun v => K v none
  | .fieldAddr t x f => aEv st x fun x => aFieldAddr E t x f fun v => K v none
  | .load t x => aEv st x fun x => aLoad E st t x fun v => K v none
  | .build t ps => aBuild E st t ps.toList fun v => K v none
  | .buildSlice t n ps => aTI E.T t fun i => match i.kind with
    | .sl e => aTI E.T e fun j => match j.size with
      | 0 => False
      | s + 1 => match Nat.ble (n * (s + 1)) 16777216 with
        | true => aElems st (s + 1) ps.toList 0 n fun xs => K (.one (.d (.sl xs))) none
        | false => False
    | _ => False
  | .box t x => aEv st x fun x => aCells x fun cs => aFBox o.dst t cs K
  | .alloc t => aTI E.T t fun i => aZero i.zero fun cs => aFBox o.dst t cs K
  | .slice t x lo hi none => aEv st x fun x => aSlice E st t x lo hi False fun v => K v none
  | .indexAddr t x i => aEv st x fun x => aEv st i fun i => aIndexAddr E st t x i fun v => K v none
  | .index t x i => aEv st x fun x => aEv st i fun i => aIndex E t x i False fun v => K v none
  | .field t x f => aEv st x fun x => aField E t x f fun v => K v none
  | .extract x i => aEv st x fun x => match x with
    | .tup vs => aNth vs i fun v => K v none
    | _ => False
  | .nilCheck x => aEv st x fun x => match x with
    | .one (.ref i k s off) => K (.one (.ref i k s off)) none
    | .one (.ptr cs) => K (.one (.ptr cs)) none
    | _ => False
  | .call c => match c.callee with
    | .builtin .len => aEvL st c.args.toList fun args => match c.argTypes.toList, args with
      | t :: _, [x] => aLen E st t x False fun v => K v none
      | _, _ => False
    | .value f => aEv st f fun f => match f with
      | .one (.d (.pv (.func (.func f) first caps))) => match first.toList, caps.toList with
        | [], [] => aEvL st c.args.toList fun args => AFCall E st.ob f args fun r => K r none
        | _, _ => False
      | _ => False
    | _ => False
  | _ => False
end Go.Proofs.YtlhanpkfnhnegaaDoor
