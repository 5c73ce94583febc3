/- The words of a free operation: monotone, and they come to one value. -/
import Derived.Test.YthmckpghadfeeaaGreatAvJ3
set_option linter.unusedVariables false
set_option linter.unusedSimpArgs false
set_option maxRecDepth 100000
namespace Go.Proofs.YthmckpghadfeeaaGreat
open Go.RowKit

structure Cps {α : Type} (F : (α → Prop) → Prop) : Prop where
  mono : ∀ {P Q : α → Prop}, (∀ x, P x → Q x) → F P → F Q
  dj : ∀ {K : α → Prop}, F K → ∃ x, K x ∧ F (· = x)
section
variable {α β γ : Type}
theorem Cps.ret (x : α) : Cps fun K : α → Prop => K x := ⟨fun h hp => h x hp, fun h => ⟨x, h, rfl⟩⟩
theorem Cps.no : Cps fun _ : α → Prop => False := ⟨fun _ h => h, fun h => h.elim⟩
theorem Cps.bind {G : (β → Prop) → Prop} {H : β → (α → Prop) → Prop} (hg : Cps G) (hh : ∀ y, Cps (H y)) : Cps fun K => G fun y => H y K :=
  ⟨fun h hp => hg.mono (fun y => (hh y).mono h) hp, fun hk => by
    obtain ⟨y, hy, g⟩ := hg.dj hk
    obtain ⟨x, hx, e⟩ := (hh y).dj hy
    exact ⟨x, hx, hg.mono (fun y' e' => by subst e'; exact e) g⟩⟩
theorem Cps.map {G : (β → Prop) → Prop} (hg : Cps G) (f : β → α) : Cps fun K => G fun y => K (f y) := hg.bind fun y => Cps.ret (f y)
theorem Cps.and {F : (α → Prop) → Prop} (p : Prop) (hf : Cps F) : Cps fun K => p ∧ F K :=
  ⟨fun h hp => ⟨hp.1, hf.mono h hp.2⟩, fun hk => by obtain ⟨x, hx, e⟩ := hf.dj hk.2; exact ⟨x, hx, hk.1, e⟩⟩
theorem Cps.ex {F : β → (α → Prop) → Prop} (hf : ∀ y, Cps (F y)) : Cps fun K => ∃ y, F y K :=
  ⟨fun h ⟨y, hp⟩ => ⟨y, (hf y).mono h hp⟩, fun ⟨y, hk⟩ => by obtain ⟨x, hx, e⟩ := (hf y).dj hk; exact ⟨x, hx, y, e⟩⟩
theorem Cps.ab {F G : (α → Prop) → Prop} (p : Bool) (hf : Cps F) (hg : Cps G) : Cps fun K => AB p (F K) (G K) := by
  cases p with
  | true => exact ⟨fun h hp => AB.tt (hf.mono h (hp.t rfl)), fun hk => by obtain ⟨x, hx, e⟩ := hf.dj (hk.t rfl); exact ⟨x, hx, AB.tt e⟩⟩
  | false => exact ⟨fun h hp => AB.ff (hg.mono h (hp.f rfl)), fun hk => by obtain ⟨x, hx, e⟩ := hg.dj (hk.f rfl); exact ⟨x, hx, AB.ff e⟩⟩
theorem Cps.aw (k : IntKind) (n : Int) {F : Int → (α → Prop) → Prop} (hf : ∀ c, Cps (F c)) : Cps fun K => AW k n fun c => F c K :=
  ⟨fun h ⟨⟨c, e, hp⟩⟩ => ⟨⟨c, e, (hf c).mono h hp⟩⟩, fun ⟨⟨c, e, hk⟩⟩ => by obtain ⟨x, hx, g⟩ := (hf c).dj hk; exact ⟨x, hx, ⟨⟨c, e, g⟩⟩⟩⟩
theorem Cps.aix (xs : List (List AD)) (n : Int) {F : Nat → List AD → (α → Prop) → Prop} (hf : ∀ k x, Cps (F k x)) : Cps fun K => AIx xs n fun k x => F k x K :=
  ⟨fun h ⟨⟨k, x, e1, e2, hp⟩⟩ => ⟨⟨k, x, e1, e2, (hf k x).mono h hp⟩⟩, fun ⟨⟨k, x, e1, e2, hk⟩⟩ => by obtain ⟨y, hy, g⟩ := (hf k x).dj hk; exact ⟨y, hy, ⟨⟨k, x, e1, e2, g⟩⟩⟩⟩
/-- By what the words are at each argument. -/
theorem Cps.of {F G : (α → Prop) → Prop} (h : ∀ K, F K = G K) (hg : Cps G) : Cps F := by
  have : F = G := funext h
  rw [this]; exact hg
end
section
variable {E : AEnv} {st : ASt}
theorem aTm_cps : ∀ (l : List AV) (n : Nat), Cps (aTm l n)
  | [], _ => Cps.no
  | x :: _, 0 => Cps.ret x
  | _ :: r, n + 1 => aTm_cps r n
theorem aOb_cps : ∀ (l : List (Nat × AO)) (i : Nat), Cps (aOb l i)
  | [], _ => Cps.no
  | (k, o) :: r, i => by
    refine Cps.of (G := fun K => match Nat.beq k i with | true => K o | false => aOb r i K) (fun K => rfl) ?_
    cases Nat.beq k i with
    | true => exact Cps.ret o
    | false => exact aOb_cps r i
theorem aNth_cps {α : Type} : ∀ (l : List α) (n : Nat), Cps (aNth l n)
  | [], _ => Cps.no
  | x :: _, 0 => Cps.ret x
  | _ :: r, n + 1 => aNth_cps r n
theorem aDrop_cps {α : Type} : ∀ (l : List α) (n : Nat), Cps (aDrop l n)
  | l, 0 => by refine Cps.of (G := fun K => K l) (fun K => by cases l <;> rfl) (Cps.ret l)
  | [], n + 1 => Cps.no
  | _ :: r, n + 1 => aDrop_cps r n
theorem aTake_cps {α : Type} : ∀ (n : Nat) (l : List α), Cps (aTake l n)
  | 0, l => by refine Cps.of (G := fun K => K []) (fun K => by cases l <;> rfl) (Cps.ret [])
  | n + 1, [] => Cps.no
  | n + 1, x :: r => (aTake_cps n r).map fun r' => x :: r'
theorem aMapD_cps : ∀ (l : List AD), Cps (aMapD l)
  | [] => Cps.ret []
  | x :: r => (aMapD_cps r).map fun r' => AC.d x :: r'
theorem aTI_cps (T : TT) (t : TypeId) : Cps (aTI T t) := by
  unfold aTI
  cases T.get t with
  | some i => exact Cps.ret i
  | none => exact Cps.no
theorem aOfC_cps (v : Value) : Cps (aOfC v) := Cps.of (G := fun K => K (ofC v)) (fun K => by unfold aOfC ofC; split <;> rfl) (Cps.ret _)
theorem aOfL_cps : ∀ l : List Value, Cps (aOfL l)
  | [] => Cps.ret []
  | v :: r => (aOfC_cps v).bind fun c => (aOfL_cps r).map fun r' => c :: r'
theorem aEv_cps (x : Operand) : Cps (aEv st x) := by
  cases x with
  | tmp t => exact aTm_cps _ _
  | const v =>
    by_cases hv : ∃ cs, v = .agg cs
    · obtain ⟨cs, rfl⟩ := hv
      exact (aOfL_cps cs.toList).map AV.agg
    · have key : ∀ K, aEv st (.const v) K = aOfC v fun c => K (AV.one c) := fun K => by
        cases v <;> first | rfl | exact absurd ⟨_, rfl⟩ hv
      exact Cps.of key ((aOfC_cps v).map AV.one)
  | func f => exact Cps.ret _
  | global g => exact Cps.no
theorem aEvL_cps : ∀ xs : List Operand, Cps (aEvL st xs)
  | [] => Cps.ret []
  | x :: r => (aEv_cps x).bind fun v => (aEvL_cps r).map fun r' => v :: r'
theorem aVal_cps (i : TI) (cs : List AC) : Cps (aVal i cs) := by
  unfold aVal
  cases i.agg with
  | true => exact (aTake_cps _ _).map AV.agg
  | false =>
    cases cs with
    | nil => exact Cps.no
    | cons c r => exact Cps.ret _
theorem aToD_cps : ∀ l : List AC, Cps (aToD l)
  | [] => Cps.ret []
  | c :: r => by
    cases c with
    | d x => exact (aToD_cps r).map fun r' => x :: r'
    | nil => exact (aToD_cps r).map fun r' => AD.sl [] :: r'
    | _ => exact Cps.no
theorem aInts_cps (op : BinOp) (k : IntKind) (a b : Int) : Cps (aInts op k a b) := by
  cases op with
  | add => exact Cps.aw _ _ fun c => Cps.ret _
  | sub => exact Cps.aw _ _ fun c => Cps.ret _
  | mul => exact Cps.aw _ _ fun c => Cps.ret _
  | quo => exact Cps.and _ (Cps.aw _ _ fun c => Cps.ret _)
  | rem => exact Cps.and _ (Cps.ret _)
  | shr =>
    refine Cps.of (G := fun K => match decide (0 ≤ b) with | true => K (vI k (shrI k a b)) | false => False) (fun K => rfl) ?_
    cases decide (0 ≤ b) with
    | true => exact Cps.ret _
    | false => exact Cps.no
  | _ => first | exact Cps.ret _ | exact Cps.no
theorem aStrs_cps (op : BinOp) (a b : ByteArray) : Cps (aStrs op a b) := by
  cases op with
  | add => exact Cps.and _ (Cps.ret _)
  | _ => first | exact Cps.ret _ | exact Cps.no
theorem aBools_cps (op : BinOp) (a b : Bool) : Cps (aBools op a b) := by
  cases op with
  | _ => first | exact Cps.ret _ | exact Cps.no
theorem aSame_cps (op : BinOp) (k k' : IntKind) (a b : Int) : Cps (fun K => match aSameK k k' with | true => aInts op k a b K | false => False) := by
  cases aSameK k k' with
  | true => exact aInts_cps ..
  | false => exact Cps.no
theorem aBoolT_cps (op : BinOp) (t : TypeId) (a b : Bool) : Cps (fun K => aTI E.T t fun i => match i.kind with | .bool => aBools op a b K | _ => False) :=
  (aTI_cps _ _).bind fun i => by
    cases i.kind with
    | bool => exact aBools_cps ..
    | _ => exact Cps.no
theorem aBin_cps {α : Type} (f : AV → α) (op : BinOp) (t : TypeId) (x y : AV) {F : (α → Prop) → Prop} (hF : Cps F) : Cps fun K => aBin E op t x y (F K) fun v => K (f v) := by
  refine ⟨fun {P Q} hpq h => ?_, fun {K} h => ?_⟩ <;> unfold aBin at h ⊢ <;> split at h
  all_goals first
    | exact hF.mono hpq h
    | exact hF.dj h
    | exact ((aSame_cps ..).map f).mono hpq h
    | exact ((aSame_cps ..).map f).dj h
    | exact ((aStrs_cps ..).map f).mono hpq h
    | exact ((aStrs_cps ..).map f).dj h
    | exact ((aBoolT_cps ..).map f).mono hpq h
    | exact ((aBoolT_cps ..).map f).dj h
theorem AFRd_cps {α : Type} (f : AV → α) (o : Oper) : Cps fun K => AFRd E o st fun v => K (f v) :=
  ⟨fun hpq h => by obtain ⟨v, hk, hr⟩ := h.h; exact ⟨v, hpq _ hk, hr⟩, fun h => by obtain ⟨v, hk, hr⟩ := h.h; exact ⟨_, hk, ⟨v, rfl, hr⟩⟩⟩
theorem aUn_cps (op : UnOp) (x : AV) : Cps (aUn op x False) := by
  refine ⟨fun {P Q} hpq h => ?_, fun {K} h => ?_⟩ <;> unfold aUn at h ⊢ <;> split at h
  all_goals first
    | exact h.elim
    | exact (Cps.ret _).mono hpq h
    | exact (Cps.ret _).dj h
    | exact (Cps.aw _ _ fun c => Cps.ret _).mono hpq h
    | exact (Cps.aw _ _ fun c => Cps.ret _).dj h
theorem aBl_cps {α : Type} (b : Bool) {F : (α → Prop) → Prop} (hf : Cps F) : Cps fun K => match (generalizing := false) b with | true => F K | false => False := by
  cases b with
  | true => exact hf
  | false => exact Cps.no
theorem aConv_cps (s d : TypeId) (x : AV) : Cps (aConv E s d x False) := by
  refine ⟨fun {P Q} hpq h => ?_, fun {K} h => ?_⟩ <;> unfold aConv at h ⊢ <;> split at h
  all_goals first
    | exact h.elim
    | skip
  · rename_i k n
    exact ((aTI_cps E.T s).bind fun _ => (aTI_cps E.T d).bind (H := fun i K => match i.kind with | .int k => AW k n fun c => K (vI k c) | _ => False) fun i => by
      cases i.kind with
      | int k => exact Cps.aw _ _ fun c => Cps.ret _
      | _ => exact Cps.no).mono hpq h
  · rename_i k n
    exact ((aTI_cps E.T s).bind fun _ => (aTI_cps E.T d).bind (H := fun i K => match i.kind with | .int k => AW k n fun c => K (vI k c) | _ => False) fun i => by
      cases i.kind with
      | int k => exact Cps.aw _ _ fun c => Cps.ret _
      | _ => exact Cps.no).dj h
theorem aFieldAddr_cps (t : TypeId) (x : AV) (f : Nat) : Cps (aFieldAddr E t x f) := by
  unfold aFieldAddr
  refine (aTI_cps _ _).bind fun i => ?_
  cases i.kind with
  | st fs =>
    refine (aNth_cps _ _).bind fun p => (aTI_cps _ _).bind fun j => ?_
    cases j.size with
    | zero => exact Cps.no
    | succ n =>
      cases x with
      | one c =>
        cases c with
        | ref id k s off => exact Cps.ret _
        | ptr cs => exact (aDrop_cps _ _).bind fun r => Cps.ret _
        | _ => exact Cps.no
      | _ => exact Cps.no
  | _ => exact Cps.no
theorem aLoad_cps (t : TypeId) (x : AV) : Cps (aLoad E st t x) := by
  unfold aLoad
  refine (aTI_cps _ _).bind fun i => ?_
  cases x with
  | one c =>
    cases c with
    | ref id k s off =>
      refine (aOb_cps _ _).bind fun o => ?_
      cases o with
      | cells u cs =>
        cases k with
        | zero => exact (aDrop_cps _ _).bind fun r => aVal_cps _ _
        | succ k => exact Cps.no
      | row e s' xs => exact aBl_cps _ (Cps.aix _ _ fun _ x => (aDrop_cps _ _).bind fun r => (aMapD_cps _).bind fun r => aVal_cps _ _)
      | frame vs us => exact Cps.no
      | any Q => exact Cps.no
    | ptr cs => exact (aMapD_cps _).bind fun cs => aVal_cps _ _
    | _ => exact Cps.no
  | _ => exact Cps.no
theorem aCells_cps (x : AV) : Cps (aCells x) := by
  cases x with
  | one c => exact aBl_cps _ (Cps.ret _)
  | agg cs => exact aBl_cps _ (Cps.ret _)
  | tup vs => exact Cps.no
theorem aZero_cps (z : Value) : Cps (aZero z) := by
  by_cases hv : ∃ cs, z = .agg cs
  · obtain ⟨cs, rfl⟩ := hv
    exact (aOfL_cps cs.toList).bind fun l => aBl_cps _ (Cps.ret _)
  · have key : ∀ K, aZero z K = aOfC z fun c => match aSolid [c] with | true => K [c] | false => False := fun K => by
      cases z <;> first | rfl | exact absurd ⟨_, rfl⟩ hv
    exact Cps.of key ((aOfC_cps z).bind fun c => aBl_cps _ (Cps.ret _))
theorem aSplice_cps : ∀ (l : List AC) (n : Nat) (xs : List AC), Cps (aSplice l n xs)
  | l, 0, [] => by refine Cps.of (G := fun K => K l) (fun K => by cases l <;> rfl) (Cps.ret l)
  | _ :: r, 0, x :: xs => (aSplice_cps r 0 xs).map fun r' => x :: r'
  | c :: r, n + 1, xs => by
    refine Cps.of (G := fun K => aSplice r n xs fun r' => K (c :: r')) (fun K => by cases xs <;> rfl) ((aSplice_cps r n xs).map fun r' => c :: r')
  | [], 0, _ :: _ => Cps.no
  | [], _ + 1, [] => Cps.no
  | [], _ + 1, _ :: _ => Cps.no
theorem aFill_cps {place : Nat → (Nat × Nat → Prop) → Prop} (hp : ∀ n, Cps (place n)) : ∀ (ps : List (Nat × Operand)) (l : List AC), Cps (aFill st place ps l)
  | [], l => Cps.ret l
  | (i, x) :: r, l => (hp i).bind fun p => (aEv_cps x).bind fun v => (aCells_cps v).bind fun vs => aBl_cps _ ((aSplice_cps _ _ _).bind fun l' => aFill_cps hp r l')
theorem aPlaces_cps : ∀ fs : List (Nat × TypeId), Cps (aPlaces E fs)
  | [] => Cps.ret []
  | p :: r => (aTI_cps _ _).bind fun j => (aPlaces_cps r).map fun q => (p.1, j.size) :: q
theorem aBuild_cps (t : TypeId) (ps : List (Nat × Operand)) : Cps (aBuild E st t ps) := by
  unfold aBuild
  refine (aTI_cps _ _).bind fun i => (aZero_cps _).bind fun z => ?_
  cases i.kind with
  | st fs => exact (aPlaces_cps _).bind fun places => (aFill_cps (fun n => aNth_cps _ _) _ _).bind fun l => Cps.ret _
  | arr n e => exact (aTI_cps _ _).bind fun j => (aFill_cps (fun n => Cps.ret _) _ _).bind fun l => Cps.ret _
  | _ => exact Cps.no
theorem aElems_cps (s : Nat) : ∀ (ps : List (Nat × Operand)) (a n : Nat), Cps (aElems st s ps a n)
  | [], a, n => aBl_cps _ (Cps.ret [])
  | (i, x) :: r, a, n => aBl_cps _ ((aEv_cps x).bind fun v => (aCells_cps v).bind fun vs => aBl_cps _ ((aToD_cps _).bind fun ds => (aElems_cps s r (a + 1) n).map fun r' => ds :: r'))
theorem aRowOf_cps (x : AV) : Cps (aRowOf st x) := by
  cases x with
  | one c =>
    cases c with
    | nil => exact Cps.ret _
    | d x =>
      cases x with
      | sl xs => exact Cps.ret _
      | pv v => exact Cps.no
    | own id =>
      refine (aOb_cps _ _).bind fun o => ?_
      cases o with
      | row _ _ xs => exact Cps.ret _
      | _ => exact Cps.no
    | _ => exact Cps.no
  | _ => exact Cps.no
theorem aLen_cps (t : TypeId) (x : AV) : Cps (aLen E st t x False) := by
  have rest : Cps fun K : AV → Prop => aTI E.T t fun i => match i.kind with | .sl _ => aRowOf st x fun xs => K (vI .i64 xs.length) | _ => False :=
    (aTI_cps _ _).bind fun i => by
      cases i.kind with
      | sl e => exact (aRowOf_cps _).bind fun xs => Cps.ret _
      | _ => exact Cps.no
  by_cases hs : ∃ s, x = .one (.d (.pv (.string s)))
  · obtain ⟨s, rfl⟩ := hs
    exact (aTI_cps E.T t).bind (H := fun i K => match i.kind with | .str => K (vI .i64 s.size) | _ => False) fun i => by
      cases i.kind with
      | str => exact Cps.ret _
      | _ => exact Cps.no
  · refine Cps.of (fun K => ?_) rest
    unfold aLen
    split
    · exact absurd ⟨_, rfl⟩ hs
    · rfl
theorem aIndexAddr_cps (t : TypeId) (x i : AV) : Cps (aIndexAddr E st t x i) := by
  refine ⟨fun {P Q} hpq h => ?_, fun {K} h => ?_⟩ <;> unfold aIndexAddr at h ⊢ <;> split at h
  all_goals first
    | exact h.elim
    | skip
  all_goals
    rename_i k n
    have key : Cps fun K : AV → Prop => aTI E.T t fun ti => match ti.kind with
      | .sl e => aTI E.T e fun j => match j.size with
        | 0 => False
        | s + 1 => match (generalizing := false) x with
          | .one (.d (.sl xs)) => AIx xs n fun _ x => match aLenD x (s + 1) with
            | true => K (.one (.ptr x))
            | false => False
          | .one (.own id) => aOb st.ob id fun o => match o with
            | .row _ s' xs => match Nat.beq (s + 1) s' with
              | true => AIx xs n fun k _ => K (.one (.ref id k (s + 1) 0))
              | false => False
            | _ => False
          | _ => False
      | _ => False := (aTI_cps _ _).bind fun ti => by
        cases ti.kind with
        | sl e =>
          refine (aTI_cps _ _).bind fun j => ?_
          cases j.size with
          | zero => exact Cps.no
          | succ s =>
            cases x with
            | one c =>
              cases c with
              | d x =>
                cases x with
                | sl xs => exact Cps.aix _ _ fun _ x => aBl_cps _ (Cps.ret _)
                | pv v => exact Cps.no
              | own id =>
                refine (aOb_cps _ _).bind fun o => ?_
                cases o with
                | row e' s' xs => exact aBl_cps _ (Cps.aix _ _ fun k _ => Cps.ret _)
                | _ => exact Cps.no
              | _ => exact Cps.no
            | _ => exact Cps.no
        | _ => exact Cps.no
    first
      | exact key.mono hpq h
      | exact key.dj h
theorem aIndex_cps (t : TypeId) (x i : AV) : Cps (aIndex E t x i False) := by
  refine ⟨fun {P Q} hpq h => ?_, fun {K} h => ?_⟩ <;> unfold aIndex at h ⊢ <;> split at h
  all_goals first
    | exact h.elim
    | skip
  all_goals
    rename_i s k n
    have key : Cps fun K : AV → Prop => aTI E.T t fun ti => match ti.kind with
      | .str => ∃ (k : Nat) (b : UInt8), n = (k : Int) ∧ s[k]? = some b ∧ K (vI .u8 b.toNat)
      | _ => False := (aTI_cps _ _).bind fun ti => by
        cases ti.kind with
        | str => exact Cps.ex fun k => Cps.ex fun b => Cps.and _ (Cps.and _ (Cps.ret _))
        | _ => exact Cps.no
    first
      | exact key.mono hpq h
      | exact key.dj h
theorem aBound_cps (x : Option Operand) : Cps (aBound st x) := by
  cases x with
  | none => exact Cps.ret none
  | some x =>
    refine (aEv_cps x).bind fun v => ?_
    refine ⟨fun {P Q} hpq h => ?_, fun {K} h => ?_⟩ <;> split at h
    all_goals first
      | exact h.elim
      | exact hpq _ h
      | exact ⟨_, h, rfl⟩
theorem aCut_cps {α : Type} (len : Nat) (lo hi : Option Int) {F : Nat → Nat → (α → Prop) → Prop} (hf : ∀ l h, Cps (F l h)) : Cps fun K => aCut len lo hi fun l h => F l h K :=
  Cps.ex fun l => Cps.ex fun h => Cps.and _ (Cps.and _ (Cps.and _ (Cps.and _ (hf l h))))
theorem aSliceB_cps (x : AV) (lo hi : Option Int) (i : TI) : Cps fun K => aSliceB E x lo hi False K i := by
  refine ⟨fun {P Q} hpq h => ?_, fun {K} h => ?_⟩ <;> unfold aSliceB at h ⊢ <;> split at h
  all_goals first
    | exact h.elim
    | skip
  · rename_i s
    revert h
    cases i.kind with
    | str => exact (aCut_cps s.size lo hi fun l h => Cps.ret (vS (s.extract l h))).mono hpq
    | _ => exact fun h => h.elim
  · rename_i xs
    revert h
    cases i.kind with
    | sl e => exact ((aTI_cps E.T e).bind fun j => aCut_cps xs.length lo hi fun l h => Cps.and _ (Cps.ret (AV.one (.d (.sl ((xs.take h).drop l)))))).mono hpq
    | _ => exact fun h => h.elim
  · rename_i s
    revert h
    cases i.kind with
    | str => exact (aCut_cps s.size lo hi fun l h => Cps.ret (vS (s.extract l h))).dj
    | _ => exact fun h => h.elim
  · rename_i xs
    revert h
    cases i.kind with
    | sl e => exact ((aTI_cps E.T e).bind fun j => aCut_cps xs.length lo hi fun l h => Cps.and _ (Cps.ret (AV.one (.d (.sl ((xs.take h).drop l)))))).dj
    | _ => exact fun h => h.elim
theorem aSlice_cps (t : TypeId) (x : AV) (lo hi : Option Operand) : Cps (aSlice E st t x lo hi False) :=
  (aBound_cps lo).bind fun lo => (aBound_cps hi).bind fun hi => (aTI_cps _ _).bind fun i => aSliceB_cps x lo hi i
theorem aField_cps (t : TypeId) (x : AV) (f : Nat) : Cps (aField E t x f) := by
  cases x with
  | agg cs =>
    refine (aTI_cps E.T t).bind (H := fun i K => match i.kind with | .st fs => aNth fs f fun p => aTI E.T p.2 fun j => aDrop cs p.1 fun r => aVal j r K | _ => False) fun i => ?_
    cases i.kind with
    | st fs => exact (aNth_cps _ _).bind fun p => (aTI_cps _ _).bind fun j => (aDrop_cps _ _).bind fun r => aVal_cps _ _
    | _ => exact Cps.no
  | _ => exact Cps.no
theorem AFCall_cps (ob : List (Nat × AO)) (f : FuncId) (args : List AV) : Cps (AFCall E ob f args) :=
  ⟨fun hpq h => by obtain ⟨ps, res, h1, h2, h3⟩ := h.h; exact ⟨⟨ps, res, h1, h2, hpq _ h3⟩⟩, fun h => by obtain ⟨ps, res, h1, h2, h3⟩ := h.h; exact ⟨_, h3, ⟨⟨ps, res, h1, h2, rfl⟩⟩⟩⟩
theorem aFBox_cps (d : Option Tmp) (t : TypeId) (cs : List AC) : Cps fun K : AV × Option AO → Prop => aFBox d t cs fun v oo => K (v, oo) := by
  cases d with
  | none => exact Cps.no
  | some d => exact aBl_cps _ (Cps.ret ((.one (.ref d 0 0 0), some (.cells t cs)) : AV × Option AO))
theorem aBool_cps {α : Type} (v : AV) {F G : (α → Prop) → Prop} (hf : Cps F) (hg : Cps G) : Cps fun K => aBool v (F K) (G K) := by
  refine ⟨fun {P Q} hpq h => ?_, fun {K} h => ?_⟩ <;> unfold aBool at h ⊢ <;> split at h
  all_goals first
    | exact h.elim
    | exact (Cps.ab _ hf hg).mono hpq h
    | exact (Cps.ab _ hf hg).dj h
/-- One value, no object. -/
theorem Cps.v {G : (AV → Prop) → Prop} (h : Cps G) : Cps fun K : AV × Option AO → Prop => G fun v => K (v, none) := h.map fun v => (v, none)
theorem afree_cps (o : Oper) : Cps fun K : AV × Option AO → Prop => afree E o st fun v oo => K (v, oo) := by
  obtain ⟨dst, op, ty, pos, g, af⟩ := o
  cases op with
  | move x => exact (aEv_cps x).v
  | assign x => exact (aEv_cps x).v
  | pick c a b => exact (aEv_cps c).bind fun c => aBool_cps c (aEv_cps a).v (aEv_cps b).v
  | binOp op t x y z => exact (aEv_cps x).bind fun x => (aEv_cps y).bind fun y => aBin_cps (fun v => ((v, none) : AV × Option AO)) op t x y (AFRd_cps (fun v => ((v, none) : AV × Option AO)) _)
  | unOp op t x => exact (aEv_cps x).bind fun x => (aUn_cps op x).v
  | convert s d x => exact (aEv_cps x).bind fun x => (aConv_cps s d x).v
  | fieldAddr t x f => exact (aEv_cps x).bind fun x => (aFieldAddr_cps t x f).v
  | load t x => exact (aEv_cps x).bind fun x => (aLoad_cps t x).v
  | build t ps => exact (aBuild_cps t ps.toList).v
  | buildSlice t n ps =>
    refine (aTI_cps E.T t).bind (H := fun i K => match i.kind with
      | .sl e => aTI E.T e fun j => match j.size with
        | 0 => False
        | s + 1 => match Nat.ble (n * (s + 1)) 16777216 with
          | true => aElems st (s + 1) ps.toList 0 n fun xs => K ((.one (.d (.sl xs)), none) : AV × Option AO)
          | false => False
      | _ => False) fun i => ?_
    cases i.kind with
    | sl e =>
      refine (aTI_cps _ _).bind fun j => ?_
      cases j.size with
      | zero => exact Cps.no
      | succ s => exact aBl_cps _ ((aElems_cps _ _ _ _).bind fun xs => Cps.ret _)
    | _ => exact Cps.no
  | box t x => exact (aEv_cps x).bind fun x => (aCells_cps x).bind fun cs => aFBox_cps dst t cs
  | alloc t => exact (aTI_cps E.T t).bind fun i => (aZero_cps _).bind fun cs => aFBox_cps dst t cs
  | slice t x lo hi m =>
    cases m with
    | none => exact (aEv_cps x).bind fun x => (aSlice_cps t x lo hi).v
    | some m => exact AFRd_cps (fun v => ((v, none) : AV × Option AO)) _
  | indexAddr t x i => exact (aEv_cps x).bind fun x => (aEv_cps i).bind fun i => (aIndexAddr_cps t x i).v
  | index t x i => exact (aEv_cps x).bind fun x => (aEv_cps i).bind fun i => (aIndex_cps t x i).v
  | field t x f => exact (aEv_cps x).bind fun x => (aField_cps t x f).v
  | extract x i =>
    refine (aEv_cps x).bind (H := fun x K => match x with | .tup vs => aNth vs i fun v => K ((v, none) : AV × Option AO) | _ => False) fun x => ?_
    cases x with
    | tup vs => exact (aNth_cps vs i).v
    | _ => exact Cps.no
  | nilCheck x =>
    refine (aEv_cps x).bind (H := fun x K => match x with
      | .one (.ref i k s off) => K ((.one (.ref i k s off), none) : AV × Option AO)
      | .one (.ptr cs) => K (.one (.ptr cs), none)
      | _ => False) fun x => ?_
    cases x with
    | one c =>
      cases c with
      | ref i k s off => exact Cps.ret _
      | ptr cs => exact Cps.ret _
      | _ => exact Cps.no
    | _ => exact Cps.no
  | call c =>
    obtain ⟨cl, args, ts⟩ := c
    cases cl with
    | builtin b =>
      cases b with
      | len =>
        refine (aEvL_cps args.toList).bind (H := fun vs K => match ts.toList, vs with | t :: _, [x] => aLen E st t x False fun v => K ((v, none) : AV × Option AO) | _, _ => False) fun vs => ?_
        cases ts.toList with
        | nil => exact Cps.no
        | cons t r =>
          match vs with
          | [] => exact Cps.no
          | [x] => exact (aLen_cps t x).v
          | _ :: _ :: _ => exact Cps.no
      | _ => exact Cps.no
    | value f =>
      refine (aEv_cps f).bind (H := fun f K => match f with
        | .one (.d (.pv (.func (.func f) first caps))) => match first.toList, caps.toList with
          | [], [] => aEvL st args.toList fun args => AFCall E st.ob f args fun r => K ((r, none) : AV × Option AO)
          | _, _ => False
        | _ => False) fun f => ?_
      refine ⟨fun {P Q} hpq h => ?_, fun {K} h => ?_⟩ <;> split at h
      all_goals first
        | exact h.elim
        | skip
      all_goals
        revert h
        rename_i f first caps
        cases first.toList with
        | cons _ _ => exact fun h => h.elim
        | nil =>
          cases caps.toList with
          | cons _ _ => exact fun h => h.elim
          | nil =>
            first
              | exact ((aEvL_cps args.toList).bind fun vs => (AFCall_cps st.ob f vs).v).mono hpq
              | exact ((aEvL_cps args.toList).bind fun vs => (AFCall_cps st.ob f vs).v).dj
    | _ => exact Cps.no
  | _ => exact AFRd_cps (fun v => ((v, none) : AV × Option AO)) _
end
theorem afree_out {E : AEnv} (he : E.Ok) {S : Base} {o : Oper} {P : ASt} {K : AV → Option AO → Prop} (h : afree E o P K) : ∃ v oo, FreeOut E S o P v oo ∧ K v oo := by
  obtain ⟨⟨v, oo⟩, hk, e⟩ := (afree_cps (E := E) (st := P) o).dj (K := fun p => K p.1 p.2) h
  have e2 : afree E o P fun v' oo' => v' = v ∧ oo' = oo := (afree_cps (E := E) (st := P) o).mono (P := fun p => p = (v, oo)) (Q := fun p => p.1 = v ∧ p.2 = oo) (fun p hp => by subst hp; exact ⟨rfl, rfl⟩) e
  exact ⟨v, oo, freeOut_of he e2, hk⟩
end Go.Proofs.YthmckpghadfeeaaGreat
