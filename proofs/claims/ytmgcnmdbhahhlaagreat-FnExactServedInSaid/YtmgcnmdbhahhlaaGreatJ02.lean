/- Joined: AvVF AvVE AvVG AvPL AvFC MkB AvTM -/
import Derived.Test.YtmgcnmdbhahhlaaGreatAvJ3
import Derived.OpenShut
set_option linter.unusedVariables false
set_option linter.unusedSimpArgs false
set_option maxRecDepth 100000
namespace Go.Proofs.YtmgcnmdbhahhlaaGreat
open Go.RowKit

structure Cps {α : Type} (F : (α → Prop) → Prop) : Prop where
  mono : ∀ {P Q : α → Prop}, (∀ x, P x → Q x) → F P → F Q
  dj : ∀ {K : α → Prop}, F K → ∃ x, K x ∧ F (· = x)
section
variable {α β γ : Type}
theorem Cps.ret (x : α) : Cps fun K : α → Prop => K x := ⟨fun h hp => h x hp, fun h => ⟨x, h, rfl⟩⟩
theorem Cps.no : Cps fun _ : α → Prop => False := ⟨fun _ h => h, fun h => h.elim⟩
theorem Cps.bind {G : (β → Prop) → Prop} {H : β → (α → Prop) → Prop} (hg : Cps G) (hh : ∀ y, Cps (H y)) : Cps fun K => G fun y => H y K :=
  ⟨fun h hp => hg.mono (fun y => (hh y).mono h) hp, fun hk => by
    obtain ⟨y, hy, g⟩ := hg.dj hk
    obtain ⟨x, hx, e⟩ := (hh y).dj hy
    exact ⟨x, hx, hg.mono (fun y' e' => by subst e'; exact e) g⟩⟩
theorem Cps.map {G : (β → Prop) → Prop} (hg : Cps G) (f : β → α) : Cps fun K => G fun y => K (f y) := hg.bind fun y => Cps.ret (f y)
theorem Cps.and {F : (α → Prop) → Prop} (p : Prop) (hf : Cps F) : Cps fun K => p ∧ F K :=
  ⟨fun h hp => ⟨hp.1, hf.mono h hp.2⟩, fun hk => by obtain ⟨x, hx, e⟩ := hf.dj hk.2; exact ⟨x, hx, hk.1, e⟩⟩
theorem Cps.ex {F : β → (α → Prop) → Prop} (hf : ∀ y, Cps (F y)) : Cps fun K => ∃ y, F y K :=
  ⟨fun h ⟨y, hp⟩ => ⟨y, (hf y).mono h hp⟩, fun ⟨y, hk⟩ => by obtain ⟨x, hx, e⟩ := (hf y).dj hk; exact ⟨x, hx, y, e⟩⟩
theorem Cps.ab {F G : (α → Prop) → Prop} (p : Bool) (hf : Cps F) (hg : Cps G) : Cps fun K => AB p (F K) (G K) := by
  cases p with
  | true => exact ⟨fun h hp => AB.tt (hf.mono h (hp.t rfl)), fun hk => by obtain ⟨x, hx, e⟩ := hf.dj (hk.t rfl); exact ⟨x, hx, AB.tt e⟩⟩
  | false => exact ⟨fun h hp => AB.ff (hg.mono h (hp.f rfl)), fun hk => by obtain ⟨x, hx, e⟩ := hg.dj (hk.f rfl); exact ⟨x, hx, AB.ff e⟩⟩
theorem Cps.aw (k : IntKind) (n : Int) {F : Int → (α → Prop) → Prop} (hf : ∀ c, Cps (F c)) : Cps fun K => AW k n fun c => F c K :=
  ⟨fun h ⟨⟨c, e, hp⟩⟩ => ⟨⟨c, e, (hf c).mono h hp⟩⟩, fun ⟨⟨c, e, hk⟩⟩ => by obtain ⟨x, hx, g⟩ := (hf c).dj hk; exact ⟨x, hx, ⟨⟨c, e, g⟩⟩⟩⟩
theorem Cps.aix (xs : List (List AD)) (n : Int) {F : Nat → List AD → (α → Prop) → Prop} (hf : ∀ k x, Cps (F k x)) : Cps fun K => AIx xs n fun k x => F k x K :=
  ⟨fun h ⟨⟨k, x, e1, e2, hp⟩⟩ => ⟨⟨k, x, e1, e2, (hf k x).mono h hp⟩⟩, fun ⟨⟨k, x, e1, e2, hk⟩⟩ => by obtain ⟨y, hy, g⟩ := (hf k x).dj hk; exact ⟨y, hy, ⟨⟨k, x, e1, e2, g⟩⟩⟩⟩
/-- By what the words are at each argument. -/
theorem Cps.of {F G : (α → Prop) → Prop} (h : ∀ K, F K = G K) (hg : Cps G) : Cps F := by
  have : F = G := funext h
  rw [this]; exact hg
end
section
variable {E : AEnv} {st : ASt}
theorem aTm_cps : ∀ (l : List AV) (n : Nat), Cps (aTm l n)
  | [], _ => Cps.no
  | x :: _, 0 => Cps.ret x
  | _ :: r, n + 1 => aTm_cps r n
theorem aOb_cps : ∀ (l : List (Nat × AO)) (i : Nat), Cps (aOb l i)
  | [], _ => Cps.no
  | (k, o) :: r, i => by
    refine Cps.of (G := fun K => match Nat.beq k i with | true => K o | false => aOb r i K) (fun K => rfl) ?_
    cases Nat.beq k i with
    | true => exact Cps.ret o
    | false => exact aOb_cps r i
theorem aNth_cps {α : Type} : ∀ (l : List α) (n : Nat), Cps (aNth l n)
  | [], _ => Cps.no
  | x :: _, 0 => Cps.ret x
  | _ :: r, n + 1 => aNth_cps r n
theorem aDrop_cps {α : Type} : ∀ (l : List α) (n : Nat), Cps (aDrop l n)
  | l, 0 => by refine Cps.of (G := fun K => K l) (fun K => by cases l <;> rfl) (Cps.ret l)
  | [], n + 1 => Cps.no
  | _ :: r, n + 1 => aDrop_cps r n
theorem aTake_cps {α : Type} : ∀ (n : Nat) (l : List α), Cps (aTake l n)
  | 0, l => by refine Cps.of (G := fun K => K []) (fun K => by cases l <;> rfl) (Cps.ret [])
  | n + 1, [] => Cps.no
  | n + 1, x :: r => (aTake_cps n r).map fun r' => x :: r'
theorem aMapD_cps : ∀ (l : List AD), Cps (aMapD l)
  | [] => Cps.ret []
  | x :: r => (aMapD_cps r).map fun r' => AC.d x :: r'
theorem aTI_cps (T : TT) (t : TypeId) : Cps (aTI T t) := by
  unfold aTI
  cases T.get t with
  | some i => exact Cps.ret i
  | none => exact Cps.no
theorem aOfC_cps (v : Value) : Cps (aOfC v) := Cps.of (G := fun K => K (ofC v)) (fun K => by unfold aOfC ofC; split <;> rfl) (Cps.ret _)
theorem aOfL_cps : ∀ l : List Value, Cps (aOfL l)
  | [] => Cps.ret []
  | v :: r => (aOfC_cps v).bind fun c => (aOfL_cps r).map fun r' => c :: r'
theorem aEv_cps (x : Operand) : Cps (aEv st x) := by
  cases x with
  | tmp t => exact aTm_cps _ _
  | const v =>
    by_cases hv : ∃ cs, v = .agg cs
    · obtain ⟨cs, rfl⟩ := hv
      exact (aOfL_cps cs.toList).map AV.agg
    · have key : ∀ K, aEv st (.const v) K = aOfC v fun c => K (AV.one c) := fun K => by
        cases v <;> first | rfl | exact absurd ⟨_, rfl⟩ hv
      exact Cps.of key ((aOfC_cps v).map AV.one)
  | func f => exact Cps.ret _
  | global g => exact Cps.no
theorem aEvL_cps : ∀ xs : List Operand, Cps (aEvL st xs)
  | [] => Cps.ret []
  | x :: r => (aEv_cps x).bind fun v => (aEvL_cps r).map fun r' => v :: r'
theorem aVal_cps (i : TI) (cs : List AC) : Cps (aVal i cs) := by
  unfold aVal
  cases i.agg with
  | true => exact (aTake_cps _ _).map AV.agg
  | false =>
    cases cs with
    | nil => exact Cps.no
    | cons c r => exact Cps.ret _
theorem aToD_cps : ∀ l : List AC, Cps (aToD l)
  | [] => Cps.ret []
  | c :: r => by
    cases c with
    | d x => exact (aToD_cps r).map fun r' => x :: r'
    | nil => exact (aToD_cps r).map fun r' => AD.sl [] :: r'
    | _ => exact Cps.no
theorem aInts_cps (op : BinOp) (k : IntKind) (a b : Int) : Cps (aInts op k a b) := by
  cases op with
  | add => exact Cps.aw _ _ fun c => Cps.ret _
  | sub => exact Cps.aw _ _ fun c => Cps.ret _
  | mul => exact Cps.aw _ _ fun c => Cps.ret _
  | quo => exact Cps.and _ (Cps.aw _ _ fun c => Cps.ret _)
  | rem => exact Cps.and _ (Cps.ret _)
  | shr =>
    refine Cps.of (G := fun K => match decide (0 ≤ b) with | true => K (vI k (shrI k a b)) | false => False) (fun K => rfl) ?_
    cases decide (0 ≤ b) with
    | true => exact Cps.ret _
    | false => exact Cps.no
  | _ => first | exact Cps.ret _ | exact Cps.no
theorem aStrs_cps (op : BinOp) (a b : ByteArray) : Cps (aStrs op a b) := by
  cases op with
  | add => exact Cps.and _ (Cps.ret _)
  | _ => first | exact Cps.ret _ | exact Cps.no
theorem aBools_cps (op : BinOp) (a b : Bool) : Cps (aBools op a b) := by
  cases op with
  | _ => first | exact Cps.ret _ | exact Cps.no
theorem aSame_cps (op : BinOp) (k k' : IntKind) (a b : Int) : Cps (fun K => match aSameK k k' with | true => aInts op k a b K | false => False) := by
  cases aSameK k k' with
  | true => exact aInts_cps ..
  | false => exact Cps.no
theorem aBoolT_cps (op : BinOp) (t : TypeId) (a b : Bool) : Cps (fun K => aTI E.T t fun i => match i.kind with | .bool => aBools op a b K | _ => False) :=
  (aTI_cps _ _).bind fun i => by
    cases i.kind with
    | bool => exact aBools_cps ..
    | _ => exact Cps.no
theorem aBin_cps {α : Type} (f : AV → α) (op : BinOp) (t : TypeId) (x y : AV) {F : (α → Prop) → Prop} (hF : Cps F) : Cps fun K => aBin E op t x y (F K) fun v => K (f v) := by
  refine ⟨fun {P Q} hpq h => ?_, fun {K} h => ?_⟩ <;> unfold aBin at h ⊢ <;> split at h
  all_goals first
    | exact hF.mono hpq h
    | exact hF.dj h
    | exact ((aSame_cps ..).map f).mono hpq h
    | exact ((aSame_cps ..).map f).dj h
    | exact ((aStrs_cps ..).map f).mono hpq h
    | exact ((aStrs_cps ..).map f).dj h
    | exact ((aBoolT_cps ..).map f).mono hpq h
    | exact ((aBoolT_cps ..).map f).dj h
theorem AFRd_cps {α : Type} (f : AV → α) (o : Oper) : Cps fun K => AFRd E o st fun v => K (f v) :=
  ⟨fun hpq h => by obtain ⟨v, hk, hr⟩ := h.h; exact ⟨v, hpq _ hk, hr⟩, fun h => by obtain ⟨v, hk, hr⟩ := h.h; exact ⟨_, hk, ⟨v, rfl, hr⟩⟩⟩
theorem aUn_cps (op : UnOp) (x : AV) : Cps (aUn op x False) := by
  refine ⟨fun {P Q} hpq h => ?_, fun {K} h => ?_⟩ <;> unfold aUn at h ⊢ <;> split at h
  all_goals first
    | exact h.elim
    | exact (Cps.ret _).mono hpq h
    | exact (Cps.ret _).dj h
    | exact (Cps.aw _ _ fun c => Cps.ret _).mono hpq h
    | exact (Cps.aw _ _ fun c => Cps.ret _).dj h
theorem aBl_cps {α : Type} (b : Bool) {F : (α → Prop) → Prop} (hf : Cps F) : Cps fun K => match (generalizing := false) b with | true => F K | false => False := by
  cases b with
  | true => exact hf
  | false => exact Cps.no
theorem aConv_cps (s d : TypeId) (x : AV) : Cps (aConv E s d x False) := by
  refine ⟨fun {P Q} hpq h => ?_, fun {K} h => ?_⟩ <;> unfold aConv at h ⊢ <;> split at h
  all_goals first
    | exact h.elim
    | skip
  · rename_i k n
    exact ((aTI_cps E.T s).bind fun _ => (aTI_cps E.T d).bind (H := fun i K => match i.kind with | .int k => AW k n fun c => K (vI k c) | _ => False) fun i => by
      cases i.kind with
      | int k => exact Cps.aw _ _ fun c => Cps.ret _
      | _ => exact Cps.no).mono hpq h
  · rename_i k n
    exact ((aTI_cps E.T s).bind fun _ => (aTI_cps E.T d).bind (H := fun i K => match i.kind with | .int k => AW k n fun c => K (vI k c) | _ => False) fun i => by
      cases i.kind with
      | int k => exact Cps.aw _ _ fun c => Cps.ret _
      | _ => exact Cps.no).dj h
theorem aFieldAddr_cps (t : TypeId) (x : AV) (f : Nat) : Cps (aFieldAddr E t x f) := by
  unfold aFieldAddr
  refine (aTI_cps _ _).bind fun i => ?_
  cases i.kind with
  | st fs =>
    refine (aNth_cps _ _).bind fun p => (aTI_cps _ _).bind fun j => ?_
    cases j.size with
    | zero => exact Cps.no
    | succ n =>
      cases x with
      | one c =>
        cases c with
        | ref id k s off => exact Cps.ret _
        | ptr cs => exact (aDrop_cps _ _).bind fun r => Cps.ret _
        | _ => exact Cps.no
      | _ => exact Cps.no
  | _ => exact Cps.no
theorem aLoad_cps (t : TypeId) (x : AV) : Cps (aLoad E st t x) := by
  unfold aLoad
  refine (aTI_cps _ _).bind fun i => ?_
  cases x with
  | one c =>
    cases c with
    | ref id k s off =>
      refine (aOb_cps _ _).bind fun o => ?_
      cases o with
      | cells u cs =>
        cases k with
        | zero => exact (aDrop_cps _ _).bind fun r => aVal_cps _ _
        | succ k => exact Cps.no
      | row e s' xs => exact aBl_cps _ (Cps.aix _ _ fun _ x => (aDrop_cps _ _).bind fun r => (aMapD_cps _).bind fun r => aVal_cps _ _)
      | frame vs us => exact Cps.no
      | any Q => exact Cps.no
      | many P Q => exact Cps.no
    | ptr cs => exact (aMapD_cps _).bind fun cs => aVal_cps _ _
    | _ => exact Cps.no
  | _ => exact Cps.no
theorem aCells_cps (x : AV) : Cps (aCells x) := by
  cases x with
  | one c => exact aBl_cps _ (Cps.ret _)
  | agg cs => exact aBl_cps _ (Cps.ret _)
  | tup vs => exact Cps.no
theorem aZero_cps (z : Value) : Cps (aZero z) := by
  by_cases hv : ∃ cs, z = .agg cs
  · obtain ⟨cs, rfl⟩ := hv
    exact (aOfL_cps cs.toList).bind fun l => aBl_cps _ (Cps.ret _)
  · have key : ∀ K, aZero z K = aOfC z fun c => match aSolid [c] with | true => K [c] | false => False := fun K => by
      cases z <;> first | rfl | exact absurd ⟨_, rfl⟩ hv
    exact Cps.of key ((aOfC_cps z).bind fun c => aBl_cps _ (Cps.ret _))
theorem aSplice_cps : ∀ (l : List AC) (n : Nat) (xs : List AC), Cps (aSplice l n xs)
  | l, 0, [] => by refine Cps.of (G := fun K => K l) (fun K => by cases l <;> rfl) (Cps.ret l)
  | _ :: r, 0, x :: xs => (aSplice_cps r 0 xs).map fun r' => x :: r'
  | c :: r, n + 1, xs => by
    refine Cps.of (G := fun K => aSplice r n xs fun r' => K (c :: r')) (fun K => by cases xs <;> rfl) ((aSplice_cps r n xs).map fun r' => c :: r')
  | [], 0, _ :: _ => Cps.no
  | [], _ + 1, [] => Cps.no
  | [], _ + 1, _ :: _ => Cps.no
theorem aFill_cps {place : Nat → (Nat × Nat → Prop) → Prop} (hp : ∀ n, Cps (place n)) : ∀ (ps : List (Nat × Operand)) (l : List AC), Cps (aFill st place ps l)
  | [], l => Cps.ret l
  | (i, x) :: r, l => (hp i).bind fun p => (aEv_cps x).bind fun v => (aCells_cps v).bind fun vs => aBl_cps _ ((aSplice_cps _ _ _).bind fun l' => aFill_cps hp r l')
theorem aPlaces_cps : ∀ fs : List (Nat × TypeId), Cps (aPlaces E fs)
  | [] => Cps.ret []
  | p :: r => (aTI_cps _ _).bind fun j => (aPlaces_cps r).map fun q => (p.1, j.size) :: q
theorem aBuild_cps (t : TypeId) (ps : List (Nat × Operand)) : Cps (aBuild E st t ps) := by
  unfold aBuild
  refine (aTI_cps _ _).bind fun i => (aZero_cps _).bind fun z => ?_
  cases i.kind with
  | st fs => exact (aPlaces_cps _).bind fun places => (aFill_cps (fun n => aNth_cps _ _) _ _).bind fun l => Cps.ret _
  | arr n e => exact (aTI_cps _ _).bind fun j => (aFill_cps (fun n => Cps.ret _) _ _).bind fun l => Cps.ret _
  | _ => exact Cps.no
theorem aElems_cps (s : Nat) : ∀ (ps : List (Nat × Operand)) (a n : Nat), Cps (aElems st s ps a n)
  | [], a, n => aBl_cps _ (Cps.ret [])
  | (i, x) :: r, a, n => aBl_cps _ ((aEv_cps x).bind fun v => (aCells_cps v).bind fun vs => aBl_cps _ ((aToD_cps _).bind fun ds => (aElems_cps s r (a + 1) n).map fun r' => ds :: r'))
theorem aRowOf_cps (x : AV) : Cps (aRowOf st x) := by
  cases x with
  | one c =>
    cases c with
    | nil => exact Cps.ret _
    | d x =>
      cases x with
      | sl xs => exact Cps.ret _
      | pv v => exact Cps.no
      | x R => exact Cps.no
    | own id =>
      refine (aOb_cps _ _).bind fun o => ?_
      cases o with
      | row _ _ xs => exact Cps.ret _
      | _ => exact Cps.no
    | _ => exact Cps.no
  | _ => exact Cps.no
theorem aLen_cps (t : TypeId) (x : AV) : Cps (aLen E st t x False) := by
  have rest : Cps fun K : AV → Prop => aTI E.T t fun i => match i.kind with | .sl _ => aRowOf st x fun xs => K (vI .i64 xs.length) | _ => False :=
    (aTI_cps _ _).bind fun i => by
      cases i.kind with
      | sl e => exact (aRowOf_cps _).bind fun xs => Cps.ret _
      | _ => exact Cps.no
  by_cases hs : ∃ s, x = .one (.d (.pv (.string s)))
  · obtain ⟨s, rfl⟩ := hs
    exact (aTI_cps E.T t).bind (H := fun i K => match i.kind with | .str => K (vI .i64 s.size) | _ => False) fun i => by
      cases i.kind with
      | str => exact Cps.ret _
      | _ => exact Cps.no
  · refine Cps.of (fun K => ?_) rest
    unfold aLen
    split
    · exact absurd ⟨_, rfl⟩ hs
    · rfl
theorem aIndexAddr_cps (t : TypeId) (x i : AV) : Cps (aIndexAddr E st t x i) := by
  refine ⟨fun {P Q} hpq h => ?_, fun {K} h => ?_⟩ <;> unfold aIndexAddr at h ⊢ <;> split at h
  all_goals first
    | exact h.elim
    | skip
  all_goals
    rename_i k n
    have key : Cps fun K : AV → Prop => aTI E.T t fun ti => match ti.kind with
      | .sl e => aTI E.T e fun j => match j.size with
        | 0 => False
        | s + 1 => match (generalizing := false) x with
          | .one (.d (.sl xs)) => AIx xs n fun _ x => match aLenD x (s + 1) with
            | true => K (.one (.ptr x))
            | false => False
          | .one (.own id) => aOb st.ob id fun o => match o with
            | .row _ s' xs => match Nat.beq (s + 1) s' with
              | true => AIx xs n fun k _ => K (.one (.ref id k (s + 1) 0))
              | false => False
            | _ => False
          | _ => False
      | _ => False := (aTI_cps _ _).bind fun ti => by
        cases ti.kind with
        | sl e =>
          refine (aTI_cps _ _).bind fun j => ?_
          cases j.size with
          | zero => exact Cps.no
          | succ s =>
            cases x with
            | one c =>
              cases c with
              | d x =>
                cases x with
                | sl xs => exact Cps.aix _ _ fun _ x => aBl_cps _ (Cps.ret _)
                | pv v => exact Cps.no
                | x R => exact Cps.no
              | own id =>
                refine (aOb_cps _ _).bind fun o => ?_
                cases o with
                | row e' s' xs => exact aBl_cps _ (Cps.aix _ _ fun k _ => Cps.ret _)
                | _ => exact Cps.no
              | _ => exact Cps.no
            | _ => exact Cps.no
        | _ => exact Cps.no
    first
      | exact key.mono hpq h
      | exact key.dj h
theorem aIndex_cps (t : TypeId) (x i : AV) : Cps (aIndex E t x i False) := by
  refine ⟨fun {P Q} hpq h => ?_, fun {K} h => ?_⟩ <;> unfold aIndex at h ⊢ <;> split at h
  all_goals first
    | exact h.elim
    | skip
  all_goals
    rename_i s k n
    have key : Cps fun K : AV → Prop => aTI E.T t fun ti => match ti.kind with
      | .str => ∃ (k : Nat) (b : UInt8), n = (k : Int) ∧ s[k]? = some b ∧ K (vI .u8 b.toNat)
      | _ => False := (aTI_cps _ _).bind fun ti => by
        cases ti.kind with
        | str => exact Cps.ex fun k => Cps.ex fun b => Cps.and _ (Cps.and _ (Cps.ret _))
        | _ => exact Cps.no
    first
      | exact key.mono hpq h
      | exact key.dj h
theorem aBound_cps (x : Option Operand) : Cps (aBound st x) := by
  cases x with
  | none => exact Cps.ret none
  | some x =>
    refine (aEv_cps x).bind fun v => ?_
    refine ⟨fun {P Q} hpq h => ?_, fun {K} h => ?_⟩ <;> split at h
    all_goals first
      | exact h.elim
      | exact hpq _ h
      | exact ⟨_, h, rfl⟩
theorem aCut_cps {α : Type} (len : Nat) (lo hi : Option Int) {F : Nat → Nat → (α → Prop) → Prop} (hf : ∀ l h, Cps (F l h)) : Cps fun K => aCut len lo hi fun l h => F l h K :=
  Cps.ex fun l => Cps.ex fun h => Cps.and _ (Cps.and _ (Cps.and _ (Cps.and _ (hf l h))))
theorem aSliceB_cps (x : AV) (lo hi : Option Int) (i : TI) : Cps fun K => aSliceB E x lo hi False K i := by
  refine ⟨fun {P Q} hpq h => ?_, fun {K} h => ?_⟩ <;> unfold aSliceB at h ⊢ <;> split at h
  all_goals first
    | exact h.elim
    | skip
  · rename_i s
    revert h
    cases i.kind with
    | str => exact (aCut_cps s.size lo hi fun l h => Cps.ret (vS (s.extract l h))).mono hpq
    | _ => exact fun h => h.elim
  · rename_i xs
    revert h
    cases i.kind with
    | sl e => exact ((aTI_cps E.T e).bind fun j => aCut_cps xs.length lo hi fun l h => Cps.and _ (Cps.ret (AV.one (.d (.sl ((xs.take h).drop l)))))).mono hpq
    | _ => exact fun h => h.elim
  · rename_i s
    revert h
    cases i.kind with
    | str => exact (aCut_cps s.size lo hi fun l h => Cps.ret (vS (s.extract l h))).dj
    | _ => exact fun h => h.elim
  · rename_i xs
    revert h
    cases i.kind with
    | sl e => exact ((aTI_cps E.T e).bind fun j => aCut_cps xs.length lo hi fun l h => Cps.and _ (Cps.ret (AV.one (.d (.sl ((xs.take h).drop l)))))).dj
    | _ => exact fun h => h.elim
theorem aSlice_cps (t : TypeId) (x : AV) (lo hi : Option Operand) : Cps (aSlice E st t x lo hi False) :=
  (aBound_cps lo).bind fun lo => (aBound_cps hi).bind fun hi => (aTI_cps _ _).bind fun i => aSliceB_cps x lo hi i
theorem aField_cps (t : TypeId) (x : AV) (f : Nat) : Cps (aField E t x f) := by
  cases x with
  | agg cs =>
    refine (aTI_cps E.T t).bind (H := fun i K => match i.kind with | .st fs => aNth fs f fun p => aTI E.T p.2 fun j => aDrop cs p.1 fun r => aVal j r K | _ => False) fun i => ?_
    cases i.kind with
    | st fs => exact (aNth_cps _ _).bind fun p => (aTI_cps _ _).bind fun j => (aDrop_cps _ _).bind fun r => aVal_cps _ _
    | _ => exact Cps.no
  | _ => exact Cps.no
theorem AFCall_cps (ob : List (Nat × AO)) (f : FuncId) (args : List AV) : Cps (AFCall E ob f args) :=
  ⟨fun hpq h => by obtain ⟨ps, res, h1, h2, h3⟩ := h.h; exact ⟨⟨ps, res, h1, h2, hpq _ h3⟩⟩, fun h => by obtain ⟨ps, res, h1, h2, h3⟩ := h.h; exact ⟨_, h3, ⟨⟨ps, res, h1, h2, rfl⟩⟩⟩⟩
theorem aFBox_cps (d : Option Tmp) (t : TypeId) (cs : List AC) : Cps fun K : AV × Option AO → Prop => aFBox d t cs fun v oo => K (v, oo) := by
  cases d with
  | none => exact Cps.no
  | some d => exact aBl_cps _ (Cps.ret ((.one (.ref d 0 0 0), some (.cells t cs)) : AV × Option AO))
theorem aBool_cps {α : Type} (v : AV) {F G : (α → Prop) → Prop} (hf : Cps F) (hg : Cps G) : Cps fun K => aBool v (F K) (G K) := by
  refine ⟨fun {P Q} hpq h => ?_, fun {K} h => ?_⟩ <;> unfold aBool at h ⊢ <;> split at h
  all_goals first
    | exact h.elim
    | exact (Cps.ab _ hf hg).mono hpq h
    | exact (Cps.ab _ hf hg).dj h
/-- One value, no object. -/
theorem Cps.v {G : (AV → Prop) → Prop} (h : Cps G) : Cps fun K : AV × Option AO → Prop => G fun v => K (v, none) := h.map fun v => (v, none)
theorem afree_cps (o : Oper) : Cps fun K : AV × Option AO → Prop => afree E o st fun v oo => K (v, oo) := by
  obtain ⟨dst, op, ty, pos, g, af⟩ := o
  cases op with
  | move x => exact (aEv_cps x).v
  | assign x => exact (aEv_cps x).v
  | pick c a b => exact (aEv_cps c).bind fun c => aBool_cps c (aEv_cps a).v (aEv_cps b).v
  | binOp op t x y z => exact (aEv_cps x).bind fun x => (aEv_cps y).bind fun y => aBin_cps (fun v => ((v, none) : AV × Option AO)) op t x y (AFRd_cps (fun v => ((v, none) : AV × Option AO)) _)
  | unOp op t x => exact (aEv_cps x).bind fun x => (aUn_cps op x).v
  | convert s d x => exact (aEv_cps x).bind fun x => (aConv_cps s d x).v
  | fieldAddr t x f => exact (aEv_cps x).bind fun x => (aFieldAddr_cps t x f).v
  | load t x => exact (aEv_cps x).bind fun x => (aLoad_cps t x).v
  | build t ps => exact (aBuild_cps t ps.toList).v
  | buildSlice t n ps =>
    refine (aTI_cps E.T t).bind (H := fun i K => match i.kind with
      | .sl e => aTI E.T e fun j => match j.size with
        | 0 => False
        | s + 1 => match Nat.ble (n * (s + 1)) 16777216 with
          | true => aElems st (s + 1) ps.toList 0 n fun xs => K ((.one (.d (.sl xs)), none) : AV × Option AO)
          | false => False
      | _ => False) fun i => ?_
    cases i.kind with
    | sl e =>
      refine (aTI_cps _ _).bind fun j => ?_
      cases j.size with
      | zero => exact Cps.no
      | succ s => exact aBl_cps _ ((aElems_cps _ _ _ _).bind fun xs => Cps.ret _)
    | _ => exact Cps.no
  | box t x => exact (aEv_cps x).bind fun x => (aCells_cps x).bind fun cs => aFBox_cps dst t cs
  | alloc t => exact (aTI_cps E.T t).bind fun i => (aZero_cps _).bind fun cs => aFBox_cps dst t cs
  | slice t x lo hi m =>
    cases m with
    | none => exact (aEv_cps x).bind fun x => (aSlice_cps t x lo hi).v
    | some m => exact AFRd_cps (fun v => ((v, none) : AV × Option AO)) _
  | indexAddr t x i => exact (aEv_cps x).bind fun x => (aEv_cps i).bind fun i => (aIndexAddr_cps t x i).v
  | index t x i => exact (aEv_cps x).bind fun x => (aEv_cps i).bind fun i => (aIndex_cps t x i).v
  | field t x f => exact (aEv_cps x).bind fun x => (aField_cps t x f).v
  | extract x i =>
    refine (aEv_cps x).bind (H := fun x K => match x with | .tup vs => aNth vs i fun v => K ((v, none) : AV × Option AO) | _ => False) fun x => ?_
    cases x with
    | tup vs => exact (aNth_cps vs i).v
    | _ => exact Cps.no
  | nilCheck x =>
    refine (aEv_cps x).bind (H := fun x K => match x with
      | .one (.ref i k s off) => K ((.one (.ref i k s off), none) : AV × Option AO)
      | .one (.ptr cs) => K (.one (.ptr cs), none)
      | _ => False) fun x => ?_
    cases x with
    | one c =>
      cases c with
      | ref i k s off => exact Cps.ret _
      | ptr cs => exact Cps.ret _
      | _ => exact Cps.no
    | _ => exact Cps.no
  | call c =>
    obtain ⟨cl, args, ts⟩ := c
    cases cl with
    | builtin b =>
      cases b with
      | len =>
        refine (aEvL_cps args.toList).bind (H := fun vs K => match ts.toList, vs with | t :: _, [x] => aLen E st t x False fun v => K ((v, none) : AV × Option AO) | _, _ => False) fun vs => ?_
        cases ts.toList with
        | nil => exact Cps.no
        | cons t r =>
          match vs with
          | [] => exact Cps.no
          | [x] => exact (aLen_cps t x).v
          | _ :: _ :: _ => exact Cps.no
      | _ => exact Cps.no
    | value f =>
      refine (aEv_cps f).bind (H := fun f K => match f with
        | .one (.d (.pv (.func (.func f) first caps))) => match first.toList, caps.toList with
          | [], [] => aEvL st args.toList fun args => AFCall E st.ob f args fun r => K ((r, none) : AV × Option AO)
          | _, _ => False
        | _ => False) fun f => ?_
      refine ⟨fun {P Q} hpq h => ?_, fun {K} h => ?_⟩ <;> split at h
      all_goals first
        | exact h.elim
        | skip
      all_goals
        revert h
        rename_i f first caps
        cases first.toList with
        | cons _ _ => exact fun h => h.elim
        | nil =>
          cases caps.toList with
          | cons _ _ => exact fun h => h.elim
          | nil =>
            first
              | exact ((aEvL_cps args.toList).bind fun vs => (AFCall_cps st.ob f vs).v).mono hpq
              | exact ((aEvL_cps args.toList).bind fun vs => (AFCall_cps st.ob f vs).v).dj
    | _ => exact Cps.no
  | _ => exact AFRd_cps (fun v => ((v, none) : AV × Option AO)) _
end
theorem afree_out {E : AEnv} (he : E.Ok) {S : Base} {o : Oper} {P : ASt} {K : AV → Option AO → Prop} (h : afree E o P K) : ∃ v oo, FreeOut E S o P v oo ∧ K v oo := by
  obtain ⟨⟨v, oo⟩, hk, e⟩ := (afree_cps (E := E) (st := P) o).dj (K := fun p => K p.1 p.2) h
  have e2 : afree E o P fun v' oo' => v' = v ∧ oo' = oo := (afree_cps (E := E) (st := P) o).mono (P := fun p => p = (v, oo)) (Q := fun p => p.1 = v ∧ p.2 = oo) (fun p hp => by subst hp; exact ⟨rfl, rfl⟩) e
  exact ⟨v, oo, freeOut_of he e2, hk⟩
end Go.Proofs.YtmgcnmdbhahhlaaGreat
namespace Go.Proofs.YtmgcnmdbhahhlaaGreat
open Go.RowKit

def aSetN {α : Type} : List α → Nat → α → (List α → Prop) → Prop
  | [], _, _, K => K []
  | _ :: r, 0, x, K => K (x :: r)
  | y :: r, i + 1, x, K => aSetN r i x fun r' => K (y :: r')
theorem aSetN_get {α : Type} : ∀ {l : List α} {i : Nat} {x : α} {K : List α → Prop}, aSetN l i x K → K (l.set i x)
  | [], _, _, _, h => h
  | _ :: _, 0, _, _, h => h
  | y :: r, i + 1, x, K, h => aSetN_get (l := r) (K := fun r' => K (y :: r')) h
/-- Slots and objects by flags that are written out. -/
theorem aPutL_of {v : AV} {P Q : List AV → Prop} (h : ∀ l, P l → Q l) : ∀ {l : List AV} {n : Nat}, aPutL l n v P → aPutL l n v Q
  | [], _, hp => hp.elim
  | _ :: r, 0, hp => h _ hp
  | x :: r, n + 1, hp => aPutL_of (P := fun r' => P (x :: r')) (Q := fun r' => Q (x :: r')) (fun l => h _) (l := r) (n := n) hp
def aMkL : List Nat → List Oper → List (AV × Option AO) → List AV → (List AV → List (Nat × AO) → Prop) → Prop
  | _, [], _, tm, K => K tm []
  | [], _ :: _, _, _, _ => False
  | _ :: _, _ :: _, [], _, _ => False
  | f :: fs, o :: ops, r :: R, tm, K => match f with
    | 0 => aMkL fs ops R tm K
    | 1 => match o.dst with
      | none => False
      | some d => match r with
        | (v, oo) => aPutL tm d v fun tm => match oo with
          | none => aMkL fs ops R tm K
          | some x => aMkL fs ops R tm fun tm obs => K tm ((d, x) :: obs)
    | _ + 2 => match o.dst with
      | none => False
      | some d => aPutL tm d (.one .dead) fun tm => aMkL fs ops R tm K
theorem aMkL_mk {fl : Nat → Nat} : ∀ (ops : List Oper) (R : List (AV × Option AO)) (j : Nat) (tm : List AV) (K : List AV → List (Nat × AO) → Prop), aMkL ((List.range' j ops.length).map fl) ops R tm K → aMk fl ops R j tm K
  | [], R, j, tm, K, h => by cases R <;> exact h
  | _ :: _, [], j, tm, K, h => by rw [List.length_cons, List.range'_succ] at h; exact h.elim
  | o :: ops, r :: R, j, tm, K, h => by
    rw [List.length_cons, List.range'_succ, List.map_cons] at h
    unfold aMkL at h
    unfold aMk
    cases hf : fl j with
    | zero => rw [hf] at h; exact aMkL_mk ops R (j + 1) tm K h
    | succ n =>
      rw [hf] at h
      cases hd : o.dst with
      | none => rw [hd] at h; cases n <;> exact h.elim
      | some d =>
        rw [hd] at h
        cases n with
        | zero =>
          obtain ⟨v, oo⟩ := r
          refine aPutL_of ?_ h
          intro tm' h2
          cases oo with
          | none => exact aMkL_mk ops R (j + 1) tm' K h2
          | some x => exact aMkL_mk ops R (j + 1) tm' _ h2
        | succ n => exact aPutL_of (fun tm' h2 => aMkL_mk ops R (j + 1) tm' K h2) h
def aFromL (fs : List Nat) (pre : List Oper) (R : List (AV × Option AO)) (st : ASt) (K : ASt → Prop) : Prop :=
  match st with
  | ⟨tm, ob⟩ => aMkL fs pre R tm fun tm obs => aApp obs ob fun ob => K ⟨tm, ob⟩
theorem aFromL_from {D : List (List Nat)} {pre : List Oper} {R : List (AV × Option AO)} {i : Nat} {st : ASt} {K : ASt → Prop} (h : aFromL ((List.range pre.length).map (flP D i)) pre R st K) : aFrom D pre R i st K := by
  obtain ⟨tm, ob⟩ := st
  rw [List.range_eq_range'] at h
  exact aMkL_mk pre R 0 tm _ h
/-- The free operations from i on; R: what has come out, the rest as it may be. -/
def aDrawK (E : AEnv) (pre : List Oper) (st : ASt) : List Oper → List (List Nat) → Nat → List (AV × Option AO) → (List (AV × Option AO) → Prop) → Prop
  | [], _, _, R, K => K R
  | _ :: _, [], _, _, _ => False
  | o :: ops, fs :: FL, i, R, K => match o.guard with
    | none => aFromL fs pre R st fun P => afree E o P fun v oo => aSetN R i (v, oo) fun R => aDrawK E pre st ops FL (i + 1) R K
    | some (g, want) => aNth fs g fun f => match f with
      | 1 => aNth R g fun rg => match rg.1 with
        | .one (.d (.pv (.bool p))) => AB p
          (match want with
            | true => aFromL fs pre R st fun P => afree E o P fun v oo => aSetN R i (v, oo) fun R => aDrawK E pre st ops FL (i + 1) R K
            | false => aSetN R i (.one .und, none) fun R => aDrawK E pre st ops FL (i + 1) R K)
          (match want with
            | true => aSetN R i (.one .und, none) fun R => aDrawK E pre st ops FL (i + 1) R K
            | false => aFromL fs pre R st fun P => afree E o P fun v oo => aSetN R i (v, oo) fun R => aDrawK E pre st ops FL (i + 1) R K)
        | .one .und => aSetN R i (.one .und, none) fun R => aDrawK E pre st ops FL (i + 1) R K
        | _ => False
      | _ => False

section
variable {E : AEnv} {S : Base} {ops : List Oper} {D : List (List Nat)} {n0 : Nat} {st : ASt}
theorem vAt_set {R : List (AV × Option AO)} {i j : Nat} {x : AV × Option AO} (h : j ≠ i) : vAt (R.set i x) j = vAt R j := by
  unfold vAt
  rw [List.getD_eq_getElem?_getD, List.getD_eq_getElem?_getD, List.getElem?_set_ne (fun e => h e.symm)]
theorem oAt_set {R : List (AV × Option AO)} {i j : Nat} {x : AV × Option AO} (h : j ≠ i) : oAt (R.set i x) j = oAt R j := by
  unfold oAt
  rw [List.getD_eq_getElem?_getD, List.getD_eq_getElem?_getD, List.getElem?_set_ne (fun e => h e.symm)]
theorem vAt_at {R : List (AV × Option AO)} {i : Nat} {x : AV × Option AO} (h : i < R.length) : vAt (R.set i x) i = x.1 := by
  unfold vAt
  rw [List.getD_eq_getElem?_getD, List.getElem?_set_self h]; rfl
theorem oAt_at {R : List (AV × Option AO)} {i : Nat} {x : AV × Option AO} (h : i < R.length) : oAt (R.set i x) i = x.2 := by
  unfold oAt
  rw [List.getD_eq_getElem?_getD, List.getElem?_set_self h]; rfl
/-- What an operation is carried out from speaks of those that it waits for. -/
theorem stP_same {R R' : List (AV × Option AO)} {i : Nat} (h : ∀ j, inD D j i = true → vAt R j = vAt R' j ∧ oAt R j = oAt R' j) : stP ops D R n0 st i = stP ops D R' n0 st i := by
  have e1 : (List.range n0).filterMap (upP ops D R i) = (List.range n0).filterMap (upP ops D R' i) := fmCongr fun j _ => by
    unfold upP
    cases hj : inD D j i with
    | true => simp [(h j hj).1]
    | false => simp
  have e2 : (List.range n0).filterMap (obF ops R fun j => inD D j i) = (List.range n0).filterMap (obF ops R' fun j => inD D j i) := fmCongr fun j _ => by
    unfold obF
    cases hj : inD D j i with
    | true => simp [(h j hj).2]
    | false => simp [hj]
  simp only [stP, e1, e2]
/-- Operations wait for earlier ones alone. -/
theorem inD_lt (T : DText ops D n0) {i j : Nat} (hi : i < ops.length) (h : inD D j i = true) : j < i := by
  have := deps_listed T (lf := fun j => decide (j < i)) (fun k hk e he => ?_) (i := i) (fun e he => ?_) h
  · simpa using this
  · have hki : k < i := by simpa using hk
    rw [aftersOf_some (List.getElem?_eq_getElem (by omega : k < ops.length))] at he
    have := T.edge k _ (List.getElem?_eq_getElem (by omega)) _ he
    simp; omega
  · rw [aftersOf_some (List.getElem?_eq_getElem hi)] at he
    have := T.edge i _ (List.getElem?_eq_getElem hi) _ he
    simpa using this
/-- Outcomes speak of no later ones. -/
theorem DOut.keep (T : DText ops D n0) {R : List (AV × Option AO)} {i k : Nat} {o : Oper} {x : AV × Option AO} (hi : i < k) (hil : i < ops.length) (h : DOut E S D R n0 (stP ops D R n0 st i) i o) : DOut E S D (R.set k x) n0 (stP ops D (R.set k x) n0 st i) i o := by
  have hlt : ∀ j, inD D j i = true → j ≠ k := fun j hj e => by have := inD_lt T hil hj; omega
  have e : stP ops D (R.set k x) n0 st i = stP ops D R n0 st i := stP_same fun j hj => ⟨vAt_set (hlt j hj), oAt_set (hlt j hj)⟩
  have e1 : vAt (R.set k x) i = vAt R i := vAt_set (by omega)
  have e2 : oAt (R.set k x) i = oAt R i := oAt_set (by omega)
  unfold DOut at h ⊢
  rw [e, e1, e2]
  cases hg : o.guard with
  | none => rw [hg] at h; exact h
  | some gw =>
    obtain ⟨g, want⟩ := gw
    rw [hg] at h
    obtain ⟨h1, h2, h3⟩ := h
    refine ⟨h1, h2, ?_⟩
    rw [vAt_set (hlt g h2)]
    exact h3
theorem flP_one_iff {D : List (List Nat)} {i j : Nat} (h : flP D i j = 1) : inD D j i = true := by
  unfold flP at h
  split at h
  · assumption
  · split at h
    · cases h
    · split at h <;> cases h
theorem drawK_get (he : E.Ok) (T : DText ops D n0) {K : List (AV × Option AO) → Prop} : ∀ (rest : List Oper) (i : Nat) (R : List (AV × Option AO)), (∀ k, (ops.take n0)[i + k]? = rest[k]?) → R.length = n0 →
    (∀ j o, j < i → ops[j]? = some o → DOut E S D R n0 (stP ops D R n0 st j) j o) → aDrawK E (ops.take n0) st rest ((List.range' i rest.length).map fun i => (List.range n0).map (flP D i)) i R K → ∃ RA, K RA ∧ ∀ j o, j < n0 → ops[j]? = some o → DOut E S D RA n0 (stP ops D RA n0 st j) j o
  | [], i, R, hr, hl, hf, h => by
    refine ⟨R, h, fun j o hj ho => hf j o ?_ ho⟩
    have := hr 0
    simp only [Nat.add_zero, List.getElem?_nil] at this
    have h2 := List.getElem?_eq_none_iff.1 this
    have := T.le
    simp at h2
    omega
  | o :: rest, i, R, hr, hl, hf, h => by
    have h0 := hr 0
    simp only [Nat.add_zero, List.getElem?_cons_zero] at h0
    have hi : i < n0 := by
      have := (List.getElem?_eq_some_iff.1 h0).1
      simp at this
      omega
    have hio : ops[i]? = some o := by
      rw [List.getElem?_take, if_pos hi] at h0
      exact h0
    have hil : i < ops.length := (List.getElem?_eq_some_iff.1 hio).1
    have hr' : ∀ k, (ops.take n0)[i + 1 + k]? = rest[k]? := fun k => by
      have := hr (k + 1)
      rw [show i + 1 + k = i + (k + 1) by omega]
      simpa using this
    have next : ∀ x : AV × Option AO, aDrawK E (ops.take n0) st rest ((List.range' (i + 1) rest.length).map fun i => (List.range n0).map (flP D i)) (i + 1) (R.set i x) K → DOut E S D (R.set i x) n0 (stP ops D (R.set i x) n0 st i) i o → ∃ RA, K RA ∧ ∀ j o, j < n0 → ops[j]? = some o → DOut E S D RA n0 (stP ops D RA n0 st j) j o := fun x hk hd =>
      drawK_get he T rest (i + 1) (R.set i x) hr' (by simpa using hl) (fun j o' hj ho' => by
        rcases Nat.lt_succ_iff_lt_or_eq.1 hj with hj | hj
        · exact (hf j o' hj ho').keep T hj (by omega)
        · subst hj
          rw [hio] at ho'
          injection ho' with ho'
          subst ho'
          exact hd) hk
    have eP : ∀ x : AV × Option AO, stP ops D (R.set i x) n0 st i = stP ops D R n0 st i := fun x => stP_same fun j hj => by
      have := inD_lt T hil hj
      exact ⟨vAt_set (by omega), oAt_set (by omega)⟩
    have free : (aFromL ((List.range n0).map (flP D i)) (ops.take n0) R st fun P => afree E o P fun v oo => aSetN R i (v, oo) fun R => aDrawK E (ops.take n0) st rest ((List.range' (i + 1) rest.length).map fun i => (List.range n0).map (flP D i)) (i + 1) R K) → ∃ x : AV × Option AO, FreeOut E S o (stP ops D R n0 st i) x.1 x.2 ∧ aDrawK E (ops.take n0) st rest ((List.range' (i + 1) rest.length).map fun i => (List.range n0).map (flP D i)) (i + 1) (R.set i x) K := fun h => by
      have hlen : (ops.take n0).length = n0 := by have := T.le; simp; omega
      have h1 := aFrom_get T.le (aFromL_from (by rw [hlen]; exact h))
      obtain ⟨v, oo, h2, h3⟩ := afree_out he h1
      exact ⟨(v, oo), h2, aSetN_get h3⟩
    rw [List.length_cons, List.range'_succ, List.map_cons] at h
    unfold aDrawK at h
    cases hg : o.guard with
    | none =>
      rw [hg] at h
      obtain ⟨x, hx, hk⟩ := free h
      refine next x hk ?_
      unfold DOut
      rw [hg, eP, vAt_at (by omega), oAt_at (by omega)]
      exact hx
    | some gw =>
      obtain ⟨g, want⟩ := gw
      rw [hg] at h
      obtain ⟨f, hf1, h3⟩ := aNth_get h
      have hf0 : f = flP D i g := by
        rw [List.getElem?_map] at hf1
        obtain ⟨g', hg', rfl⟩ := Option.map_eq_some_iff.1 hf1
        have := List.getElem?_eq_some_iff.1 hg'
        obtain ⟨_, e⟩ := this
        simp at e
        rw [e]
      split at h3
      case h_2 => exact h3.elim
      have h1 : inD D g i = true := flP_one_iff hf0.symm
      obtain ⟨rg, hrg, h3⟩ := aNth_get h3
      have hgi := inD_lt T hil h1
      have hvg : ∀ x : AV × Option AO, vAt (R.set i x) g = rg.1 := fun x => by
        rw [vAt_set (by omega)]
        unfold vAt
        rw [List.getD_eq_getElem?_getD, hrg]; rfl
      split at h3
      · rename_i p hp
        have run : (p = want) → (aFromL ((List.range n0).map (flP D i)) (ops.take n0) R st fun P => afree E o P fun v oo => aSetN R i (v, oo) fun R => aDrawK E (ops.take n0) st rest ((List.range' (i + 1) rest.length).map fun i => (List.range n0).map (flP D i)) (i + 1) R K) → ∃ RA, K RA ∧ ∀ j o, j < n0 → ops[j]? = some o → DOut E S D RA n0 (stP ops D RA n0 st j) j o := fun e h => by
          obtain ⟨x, hx, hk⟩ := free h
          refine next x hk ?_
          unfold DOut
          rw [hg, eP, vAt_at (by omega), oAt_at (by omega)]
          exact ⟨by omega, h1, .inl ⟨p, by rw [hvg, hp], .inl ⟨e, hx⟩⟩⟩
        have skip : (p ≠ want) → (aSetN R i (.one .und, none) fun R => aDrawK E (ops.take n0) st rest ((List.range' (i + 1) rest.length).map fun i => (List.range n0).map (flP D i)) (i + 1) R K) → ∃ RA, K RA ∧ ∀ j o, j < n0 → ops[j]? = some o → DOut E S D RA n0 (stP ops D RA n0 st j) j o := fun e h => by
          refine next (.one .und, none) (aSetN_get h) ?_
          unfold DOut
          rw [hg, eP, vAt_at (by omega), oAt_at (by omega)]
          exact ⟨by omega, h1, .inl ⟨p, by rw [hvg, hp], .inr ⟨e, rfl, rfl⟩⟩⟩
        cases p with
        | true =>
          have h := h3.t rfl
          cases want with
          | true => exact run rfl h
          | false => exact skip (by simp) h
        | false =>
          have h := h3.f rfl
          cases want with
          | true => exact skip (by simp) h
          | false => exact run rfl h
      · rename_i hp
        refine next (.one .und, none) (aSetN_get h3) ?_
        unfold DOut
        rw [hg, eP, vAt_at (by omega), oAt_at (by omega)]
        exact ⟨by omega, h1, .inr ⟨by rw [hvg, hp], rfl, rfl⟩⟩
      · exact h3.elim
end
theorem AWP.drawF {E : AEnv} (he : E.Ok) {S : Base} {ops : Array Oper} {K : Exit → ASt → Prop} {id : Nat} {st : ASt} (n0 : Nat) (D : List (List Nat)) (R : List (AV × Option AO)) (T : DText ops.toList D n0) (F : DFacts E S ops.toList D R n0 st)
    (ht : aAfter (ops.toList.take n0) R st fun st => arun E S ops.toList (ops.toList.drop n0) st (K .normal)) : AWP E S (.region id ops true) K st := by
  refine ⟨fun a w hs => wp_region_any he.mixed ?_⟩
  have hg : w.grownBy { w with drawn := w.drawn + 1 } none := ⟨rfl, rfl, rfl, Nat.le_refl _, fun b hb _ => rfl⟩
  refine draw_head (Q := fun e a' w' => ∃ st', SimX E.W S st' a' w' ∧ K e st') he T F (fun a w h => h) ht ops.size (Array.replicate ops.size false) a _ (by simp) (fun j _ => ?_) (fun j hj => ?_) ?_ ?_
  · simp [lfOf, Array.getD_eq_getD_getElem?, Array.getElem?_replicate]
    split <;> rfl
  · exfalso
    simp [lfOf, Array.getD_eq_getD_getElem?, Array.getElem?_replicate] at hj
    split at hj <;> simp at hj
  · have : ∀ (lf : Nat → Bool) n, cntU lf n ≤ n := fun lf n => by
      induction n with
      | zero => exact Nat.le_refl _
      | succ n ih => simp only [cntU]; split <;> omega
    exact this _ _
  · obtain ⟨Z, ρ, hs⟩ := hs
    have e : stS ops.toList R n0 st (lfOf (Array.replicate ops.size false)) = st := by
      have e1 : ∀ j, lfOf (Array.replicate ops.size false) j = false := fun j => by
        simp [lfOf, Array.getD_eq_getD_getElem?, Array.getElem?_replicate]
        split <;> rfl
      have e2 : (List.range n0).filterMap (upS ops.toList R (lfOf (Array.replicate ops.size false))) = [] := by
        rw [List.filterMap_eq_nil_iff]; intro j _; simp [upS, e1]
      have e3 : (List.range n0).filterMap (obF ops.toList R (lfOf (Array.replicate ops.size false))) = [] := by
        rw [List.filterMap_eq_nil_iff]; intro j _; simp [obF, e1]
      simp [stS, e2, e3, setsL]
    rw [e]
    exact ⟨Z, ρ, hs.grow hg (fun _ h => h) fun _ h => .inl h⟩
/-- Rows of small numbers, each packed into one. -/
def unq : Nat → Nat → List Nat
  | 0, _ => []
  | n + 1, x => match Nat.beq x 0 with
    | true => []
    | false => (x % 64 - 1) :: unq n (x / 64)
def unqs : List Nat → List (List Nat)
  | [] => []
  | x :: r => unq 64 x :: unqs r
def unp : Nat → Nat → List Nat
  | 0, _ => []
  | n + 1, x => (x % 3) :: unp n (x / 3)
def unps (n : Nat) : List Nat → List (List Nat)
  | [] => []
  | x :: r => unp n x :: unps n r
theorem AWP.drawK {E : AEnv} (he : E.Ok) {S : Base} {ops : Array Oper} {K : Exit → ASt → Prop} (id : Nat) {st : ASt} (n0 : Nat) (D FL : List (List Nat)) (hD : depsOf [] ops.toList = D) (hok : drawOK ops.toList D n0 = true) (hfl : ((List.range n0).map fun i => (List.range n0).map (flP D i)) = FL) (hl : lenB ops.toList n0 st.tm.length = true)
    (h : aDrawK E (ops.toList.take n0) st (ops.toList.take n0) FL 0 (List.replicate n0 (.one .dead, none)) fun R => noB ops.toList D R n0 st = true ∧ aAfter (ops.toList.take n0) R st fun st => arun E S ops.toList (ops.toList.drop n0) st (K .normal)) : AWP E S (.region id ops true) K st := by
  have T := drawOK_text hD hok
  have hlen : (ops.toList.take n0).length = n0 := by have := T.le; simp at *; omega
  subst hfl
  have e : ((List.range n0).map fun i => (List.range n0).map (flP D i)) = ((List.range' 0 (ops.toList.take n0).length).map fun i => (List.range n0).map (flP D i)) := by rw [hlen, ← List.range_eq_range']
  rw [e] at h
  obtain ⟨R, ⟨hno, ht⟩, hf⟩ := drawK_get (S := S) he T (ops.toList.take n0) 0 (List.replicate n0 (.one .dead, none)) (fun k => by simp) (by simp) (fun j o hj => absurd hj (Nat.not_lt_zero _)) h
  exact AWP.drawF he n0 D R T ⟨base_of T hl hno, hf⟩ ht
end Go.Proofs.YtmgcnmdbhahhlaaGreat
namespace Go.Proofs.YtmgcnmdbhahhlaaGreat
open Go.RowKit

theorem aSetO_mk {i : Nat} {o : AO} : ∀ {l : List (Nat × AO)} {K : List (Nat × AO) → Prop}, K (oset l i o) → aSetO i o l K
  | [], _, h => h
  | (k, x) :: r, K, h => by
    simp only [aSetO]
    unfold oset at h
    cases e : Nat.beq k i with
    | true => rw [if_pos (Nat.eq_of_beq_eq_true e)] at h; exact h
    | false => rw [if_neg (Nat.ne_of_beq_eq_false e)] at h; exact aSetO_mk (l := r) (K := fun r' => K ((k, x) :: r')) h
theorem aTm_mk {K : AV → Prop} : ∀ {l : List AV} {n : Nat} {x : AV}, l[n]? = some x → K x → aTm l n K
  | [], n, x, h, _ => by simp at h
  | y :: r, 0, x, h, hk => by simp at h; subst h; exact hk
  | y :: r, n + 1, x, h, hk => aTm_mk (l := r) (n := n) (by simpa using h) hk
theorem aStore_lift {E : AEnv} {tm : List AV} {ob : List (Nat × AO)} {t : TypeId} {c k s off : Nat} {vv : AV} {o0 o1 : AO} (hob : oget ob c = some o0) (h : aStore E ⟨[], [(c, o0)]⟩ t (.one (.ref c k s off)) vv fun st => st = ⟨[], [(c, o1)]⟩) :
    aStore E ⟨tm, ob⟩ t (.one (.ref c k s off)) vv fun st => st = ⟨tm, oset ob c o1⟩ := by
  have fin : ∀ X : AO, (aSetO c X [(c, o0)] fun ob => (⟨[], ob⟩ : ASt) = ⟨[], [(c, o1)]⟩) → aSetO c X ob fun ob' => (⟨tm, ob'⟩ : ASt) = ⟨tm, oset ob c o1⟩ := fun X hX => by
    have h1 := aSetO_get hX
    simp only [oset, if_true, ASt.mk.injEq, List.cons.injEq, Prod.mk.injEq, true_and, and_true] at h1
    subst h1
    exact aSetO_mk rfl
  unfold aStore at h ⊢
  refine (aTI_cps E.T t).mono (fun i h => (aCells_cps vv).mono (fun vs h => ?_) h) h
  cases hl : aLenIs vs i.size with
  | false => rw [hl] at h; exact h
  | true =>
    rw [hl] at h
    obtain ⟨o, ho, hk⟩ := aOb_get (l := [(c, o0)]) (i := c) h
    have : o = o0 := by simp only [oget, if_true, Option.some.injEq] at ho; exact ho.symm
    subst this
    refine aOb_mk hob ?_
    cases o with
    | cells u cs =>
      cases k with
      | zero => exact (aSplice_cps cs off vs).mono (fun cs' h => fin _ h) hk
      | succ k => exact hk
    | row e s' xs =>
      cases hs : Nat.beq s s' with
      | false => simp only [hs] at hk
      | true =>
        simp only [hs] at hk ⊢
        obtain ⟨k', x, e1, e2, hk⟩ := hk.h
        exact ⟨⟨k', x, e1, e2, (aMapD_cps x).mono (fun x h => (aSplice_cps x off vs).mono (fun x' h => (aToD_cps x').mono (fun x' h => fin _ h) h) h) hk⟩⟩
    | frame vs us => exact hk
    | any Q => exact hk
    | many P Q => exact hk

structure DTextF (ops : List Oper) (D : List (List Nat)) (m : Nat) : Prop where
  hD : depsOf [] ops = D
  lt : m < ops.length
  nd : ((List.range m).map (dAt ops)).Nodup
  edge : ∀ i o, ops[i]? = some o → ∀ x ∈ aftB o, x < i
  dst : ∀ i o, i < m → ops[i]? = some o → o.dst = some (dAt ops i)
  tail : ∀ i, m < i → i < ops.length → ∀ j, j < i → inD D j i = true
def drawOKF (ops : List Oper) (D : List (List Nat)) (m : Nat) : Bool :=
  Nat.blt m ops.length && nodupB ((List.range m).map (dAt ops)) &&
  (List.range ops.length).all fun i => match ops[i]? with
    | some o => ((aftB o).all fun x => Nat.blt x i) && (if i < m then o.dst.isSome else (if i = m then true else (List.range i).all fun j => inD D j i))
    | none => true
theorem drawOKF_text {ops : List Oper} {D : List (List Nat)} {m : Nat} (hD : depsOf [] ops = D) (h : drawOKF ops D m = true) : DTextF ops D m := by
  simp only [drawOKF, Bool.and_eq_true, List.all_eq_true] at h
  obtain ⟨⟨h1, h2⟩, h3⟩ := h
  have key : ∀ i o, ops[i]? = some o → _ := fun i o ho => by
    have hlt := (List.getElem?_eq_some_iff.1 ho).1
    have := h3 i (List.mem_range.2 hlt)
    rw [ho] at this
    simp only [Bool.and_eq_true, List.all_eq_true] at this
    exact this
  refine ⟨hD, Nat.le_of_ble_eq_true h1, nodupB_ok h2, fun i o ho e he => ?_, fun i o hi ho => ?_, fun i hi hlt j hj => ?_⟩
  · exact Nat.le_of_ble_eq_true ((key i o ho).1 e he)
  · have := (key i o ho).2
    rw [if_pos hi] at this
    obtain ⟨d, hd⟩ := Option.isSome_iff_exists.1 this
    rw [hd]
    simp [dAt, ho, hd]
  · have := (key i ops[i] (List.getElem?_eq_getElem hlt)).2
    rw [if_neg (by omega), if_neg (by omega), List.all_eq_true] at this
    exact this j (List.mem_range.2 hj)
theorem deps_listedF {ops : List Oper} {D : List (List Nat)} {m : Nat} (T : DTextF ops D m) {lf : Nat → Bool} (hc : ∀ j, lf j = true → ∀ e ∈ aftersOf ops j, lf e = true) {i : Nat} (hi : ∀ e ∈ aftersOf ops i, lf e = true) {j : Nat} (hj : inD D j i = true) : lf j = true := by
  have := depsOf_closed ops (fun j => lf j = true) hc ops [] (fun k => by simp) (fun j hj => absurd hj (Nat.not_lt_zero _)) i hi j
  rw [T.hD] at this
  refine this ?_
  simpa [inD] using hj
section
variable {E : AEnv} {S : Base} {ops : List Oper} {D : List (List Nat)} {R : List (AV × Option AO)} {n0 : Nat} {st0 st : ASt}
theorem DTextF.le {ops : List Oper} {D : List (List Nat)} {m : Nat} (T : DTextF ops D m) : m ≤ ops.length := Nat.le_of_lt T.lt
theorem base_ofF {D : List (List Nat)} {ops : List Oper} (T : DTextF ops D n0) (hl : lenB ops n0 st0.tm.length = true) (hno : noB ops D R n0 st0 = true) : DBase ops D R n0 st0 := by
  simp only [lenB, List.all_eq_true] at hl
  simp only [noB, List.all_eq_true] at hno
  have hno' : ∀ i, i < n0 → ∀ o, oAt R i = some o → _ := fun i hi o ho => by
    have := hno i (List.mem_range.2 hi)
    rw [ho] at this
    simp only [Bool.and_eq_true, List.all_eq_true] at this
    exact this
  refine ⟨T.le, T.nd, T.dst, fun j hj => Nat.le_of_ble_eq_true (hl j (List.mem_range.2 hj)), fun j hj hne => ?_, fun i hi hne => ?_, fun i j hi hj hne hd hji => ?_⟩
  · obtain ⟨o, ho⟩ := Option.ne_none_iff_exists'.1 hne
    have := (hno' j hj o ho).1.1.1
    simpa using this
  · obtain ⟨o, ho⟩ := Option.ne_none_iff_exists'.1 hne
    have := hno' i hi o ho
    exact ⟨this.1.1.2, this.1.2⟩
  · obtain ⟨o, ho⟩ := Option.ne_none_iff_exists'.1 hne
    have := (hno' i hi o ho).2 j (List.mem_range.2 hj)
    simp only [hd, Bool.false_or, Bool.or_eq_true, Bool.and_eq_true] at this
    rcases this with this | ⟨h1, h2⟩
    · exact absurd (Nat.eq_of_beq_eq_true this) hji
    · refine ⟨h1, fun o' ho' => ?_⟩
      rw [ho'] at h2
      exact h2
theorem out_ofF (he : E.Ok) {D : List (List Nat)} {ops : List Oper} (T : DTextF ops D n0) {i : Nat} {o : Oper} (hi : i < n0) {r : AV × Option AO} (hr : R[i]? = some r) (hfact : aFact E D (ops.take n0) R st0 i o r) : DOut E S D R n0 (stP ops D R n0 st0 i) i o := by
  have hv : vAt R i = r.1 := by simp [vAt, List.getD, hr]
  have hoo : oAt R i = r.2 := by simp [oAt, List.getD, hr]
  have free : (aFrom D (ops.take n0) R i st0 fun P => afree E o P fun v oo => v = r.1 ∧ oo = r.2) → FreeOut E S o (stP ops D R n0 st0 i) (vAt R i) (oAt R i) := fun h => by
    rw [hv, hoo]
    exact freeOut_of he (aFrom_get T.le h)
  unfold DOut
  unfold aFact at hfact
  cases hg : o.guard with
  | none =>
    rw [hg] at hfact
    exact free hfact
  | some gw =>
    obtain ⟨g, want⟩ := gw
    rw [hg] at hfact
    obtain ⟨h1, h2, h3⟩ := hfact
    obtain ⟨rg, hrg, h3⟩ := aNth_get h3
    have hgn : g < n0 := by
      have h4 : g < (ops.take n0).length := Nat.le_of_ble_eq_true h2
      simp at h4
      omega
    refine ⟨hgn, h1, ?_⟩
    have hvg : vAt R g = rg.1 := by simp [vAt, List.getD, hrg]
    split at h3
    · rename_i p hp
      refine .inl ⟨p, by rw [hvg, hp], ?_⟩
      cases p with
      | true =>
        have h := h3.t rfl
        cases want with
        | true => exact .inl ⟨rfl, free h⟩
        | false => exact .inr ⟨by simp, by rw [hv, show r = (.one .und, none) from h], by rw [hoo, show r = (.one .und, none) from h]⟩
      | false =>
        have h := h3.f rfl
        cases want with
        | false => exact .inl ⟨rfl, free h⟩
        | true => exact .inr ⟨by simp, by rw [hv, show r = (.one .und, none) from h], by rw [hoo, show r = (.one .und, none) from h]⟩
    · exact h3.elim
theorem inD_ltF (T : DTextF ops D n0) {i j : Nat} (hi : i < ops.length) (h : inD D j i = true) : j < i := by
  have := deps_listedF T (lf := fun j => decide (j < i)) (fun k hk e he => ?_) (i := i) (fun e he => ?_) h
  · simpa using this
  · have hki : k < i := by simpa using hk
    rw [aftersOf_some (List.getElem?_eq_getElem (by omega : k < ops.length))] at he
    have := T.edge k _ (List.getElem?_eq_getElem (by omega)) _ he
    simp; omega
  · rw [aftersOf_some (List.getElem?_eq_getElem hi)] at he
    have := T.edge i _ (List.getElem?_eq_getElem hi) _ he
    simpa using this
theorem DOut.keepF (T : DTextF ops D n0) {R : List (AV × Option AO)} {i k : Nat} {o : Oper} {x : AV × Option AO} (hi : i < k) (hil : i < ops.length) (h : DOut E S D R n0 (stP ops D R n0 st i) i o) : DOut E S D (R.set k x) n0 (stP ops D (R.set k x) n0 st i) i o := by
  have hlt : ∀ j, inD D j i = true → j ≠ k := fun j hj e => by have := inD_ltF T hil hj; omega
  have e : stP ops D (R.set k x) n0 st i = stP ops D R n0 st i := stP_same fun j hj => ⟨vAt_set (hlt j hj), oAt_set (hlt j hj)⟩
  have e1 : vAt (R.set k x) i = vAt R i := vAt_set (by omega)
  have e2 : oAt (R.set k x) i = oAt R i := oAt_set (by omega)
  unfold DOut at h ⊢
  rw [e, e1, e2]
  cases hg : o.guard with
  | none => rw [hg] at h; exact h
  | some gw =>
    obtain ⟨g, want⟩ := gw
    rw [hg] at h
    obtain ⟨h1, h2, h3⟩ := h
    refine ⟨h1, h2, ?_⟩
    rw [vAt_set (hlt g h2)]
    exact h3
theorem drawK_getF (he : E.Ok) (T : DTextF ops D n0) {K : List (AV × Option AO) → Prop} : ∀ (rest : List Oper) (i : Nat) (R : List (AV × Option AO)), (∀ k, (ops.take n0)[i + k]? = rest[k]?) → R.length = n0 →
    (∀ j o, j < i → ops[j]? = some o → DOut E S D R n0 (stP ops D R n0 st j) j o) → aDrawK E (ops.take n0) st rest ((List.range' i rest.length).map fun i => (List.range n0).map (flP D i)) i R K → ∃ RA, K RA ∧ ∀ j o, j < n0 → ops[j]? = some o → DOut E S D RA n0 (stP ops D RA n0 st j) j o
  | [], i, R, hr, hl, hf, h => by
    refine ⟨R, h, fun j o hj ho => hf j o ?_ ho⟩
    have := hr 0
    simp only [Nat.add_zero, List.getElem?_nil] at this
    have h2 := List.getElem?_eq_none_iff.1 this
    have := T.le
    simp at h2
    omega
  | o :: rest, i, R, hr, hl, hf, h => by
    have h0 := hr 0
    simp only [Nat.add_zero, List.getElem?_cons_zero] at h0
    have hi : i < n0 := by
      have := (List.getElem?_eq_some_iff.1 h0).1
      simp at this
      omega
    have hio : ops[i]? = some o := by
      rw [List.getElem?_take, if_pos hi] at h0
      exact h0
    have hil : i < ops.length := (List.getElem?_eq_some_iff.1 hio).1
    have hr' : ∀ k, (ops.take n0)[i + 1 + k]? = rest[k]? := fun k => by
      have := hr (k + 1)
      rw [show i + 1 + k = i + (k + 1) by omega]
      simpa using this
    have next : ∀ x : AV × Option AO, aDrawK E (ops.take n0) st rest ((List.range' (i + 1) rest.length).map fun i => (List.range n0).map (flP D i)) (i + 1) (R.set i x) K → DOut E S D (R.set i x) n0 (stP ops D (R.set i x) n0 st i) i o → ∃ RA, K RA ∧ ∀ j o, j < n0 → ops[j]? = some o → DOut E S D RA n0 (stP ops D RA n0 st j) j o := fun x hk hd =>
      drawK_getF he T rest (i + 1) (R.set i x) hr' (by simpa using hl) (fun j o' hj ho' => by
        rcases Nat.lt_succ_iff_lt_or_eq.1 hj with hj | hj
        · exact (hf j o' hj ho').keepF T hj (by omega)
        · subst hj
          rw [hio] at ho'
          injection ho' with ho'
          subst ho'
          exact hd) hk
    have eP : ∀ x : AV × Option AO, stP ops D (R.set i x) n0 st i = stP ops D R n0 st i := fun x => stP_same fun j hj => by
      have := inD_ltF T hil hj
      exact ⟨vAt_set (by omega), oAt_set (by omega)⟩
    have free : (aFromL ((List.range n0).map (flP D i)) (ops.take n0) R st fun P => afree E o P fun v oo => aSetN R i (v, oo) fun R => aDrawK E (ops.take n0) st rest ((List.range' (i + 1) rest.length).map fun i => (List.range n0).map (flP D i)) (i + 1) R K) → ∃ x : AV × Option AO, FreeOut E S o (stP ops D R n0 st i) x.1 x.2 ∧ aDrawK E (ops.take n0) st rest ((List.range' (i + 1) rest.length).map fun i => (List.range n0).map (flP D i)) (i + 1) (R.set i x) K := fun h => by
      have hlen : (ops.take n0).length = n0 := by have := T.le; simp; omega
      have h1 := aFrom_get T.le (aFromL_from (by rw [hlen]; exact h))
      obtain ⟨v, oo, h2, h3⟩ := afree_out he h1
      exact ⟨(v, oo), h2, aSetN_get h3⟩
    rw [List.length_cons, List.range'_succ, List.map_cons] at h
    unfold aDrawK at h
    cases hg : o.guard with
    | none =>
      rw [hg] at h
      obtain ⟨x, hx, hk⟩ := free h
      refine next x hk ?_
      unfold DOut
      rw [hg, eP, vAt_at (by omega), oAt_at (by omega)]
      exact hx
    | some gw =>
      obtain ⟨g, want⟩ := gw
      rw [hg] at h
      obtain ⟨f, hf1, h3⟩ := aNth_get h
      have hf0 : f = flP D i g := by
        rw [List.getElem?_map] at hf1
        obtain ⟨g', hg', rfl⟩ := Option.map_eq_some_iff.1 hf1
        have := List.getElem?_eq_some_iff.1 hg'
        obtain ⟨_, e⟩ := this
        simp at e
        rw [e]
      split at h3
      case h_2 => exact h3.elim
      have h1 : inD D g i = true := flP_one_iff hf0.symm
      obtain ⟨rg, hrg, h3⟩ := aNth_get h3
      have hgi := inD_ltF T hil h1
      have hvg : ∀ x : AV × Option AO, vAt (R.set i x) g = rg.1 := fun x => by
        rw [vAt_set (by omega)]
        unfold vAt
        rw [List.getD_eq_getElem?_getD, hrg]; rfl
      split at h3
      · rename_i p hp
        have run : (p = want) → (aFromL ((List.range n0).map (flP D i)) (ops.take n0) R st fun P => afree E o P fun v oo => aSetN R i (v, oo) fun R => aDrawK E (ops.take n0) st rest ((List.range' (i + 1) rest.length).map fun i => (List.range n0).map (flP D i)) (i + 1) R K) → ∃ RA, K RA ∧ ∀ j o, j < n0 → ops[j]? = some o → DOut E S D RA n0 (stP ops D RA n0 st j) j o := fun e h => by
          obtain ⟨x, hx, hk⟩ := free h
          refine next x hk ?_
          unfold DOut
          rw [hg, eP, vAt_at (by omega), oAt_at (by omega)]
          exact ⟨by omega, h1, .inl ⟨p, by rw [hvg, hp], .inl ⟨e, hx⟩⟩⟩
        have skip : (p ≠ want) → (aSetN R i (.one .und, none) fun R => aDrawK E (ops.take n0) st rest ((List.range' (i + 1) rest.length).map fun i => (List.range n0).map (flP D i)) (i + 1) R K) → ∃ RA, K RA ∧ ∀ j o, j < n0 → ops[j]? = some o → DOut E S D RA n0 (stP ops D RA n0 st j) j o := fun e h => by
          refine next (.one .und, none) (aSetN_get h) ?_
          unfold DOut
          rw [hg, eP, vAt_at (by omega), oAt_at (by omega)]
          exact ⟨by omega, h1, .inl ⟨p, by rw [hvg, hp], .inr ⟨e, rfl, rfl⟩⟩⟩
        cases p with
        | true =>
          have h := h3.t rfl
          cases want with
          | true => exact run rfl h
          | false => exact skip (by simp) h
        | false =>
          have h := h3.f rfl
          cases want with
          | true => exact skip (by simp) h
          | false => exact run rfl h
      · rename_i hp
        refine next (.one .und, none) (aSetN_get h3) ?_
        unfold DOut
        rw [hg, eP, vAt_at (by omega), oAt_at (by omega)]
        exact ⟨by omega, h1, .inr ⟨by rw [hvg, hp], rfl, rfl⟩⟩
      · exact h3.elim
end

/-- A store that may come before some of the free operations: what holds before it, what holds behind. -/
structure Flt (E : AEnv) (S : Base) (ops : List Oper) (D : List (List Nat)) (m : Nat) (R0 R1 : List (AV × Option AO)) (st0 st1 : ASt) : Prop where
  F0 : DFacts E S ops D R0 m st0
  B1 : DBase ops D R1 m st1
  out1 : ∀ i o, i < m → inD D i m = false → ops[i]? = some o → DOut E S D R1 m (stP ops D R1 m st1 i) i o
  step : ∀ o, ops[m]? = some o → o.guard = none ∧ ∀ l : Nat → Bool, (∀ j, inD D j m = true → l j = true) → ∀ a w, SimX E.W S (stS ops R0 m st0 l) a w → ∀ Q, Oper.wp E.P o a w (fun a' w' => SimX E.W S (stS ops R1 m st1 l) a' w') Q

section
variable {E : AEnv} {S : Base} {ops : Array Oper} {n0 : Nat} {st0 st1 : ASt} {R0 R1 : List (AV × Option AO)} {K : ASt → Prop} {Q : Exit → Act → World → Prop}
theorem ready_lfF {listed : Array Bool} (hs : listed.size = ops.size) {i : Nat} :
    i ∈ Region.ready .any ops listed ↔ i < ops.size ∧ lfOf listed i = false ∧ ∀ e ∈ aftersOf ops.toList i, lfOf listed e = true := by
  rw [mem_ready]
  constructor
  · rintro ⟨h1, o, ho, h2⟩
    have hlt := (Array.getElem?_eq_some_iff.1 ho).1
    refine ⟨hlt, ?_, fun e he => ?_⟩
    · simp only [lfOf, Array.getD_eq_getD_getElem?] at h1 ⊢
      rw [Array.getElem?_eq_getElem (by omega)] at h1 ⊢
      simpa using h1
    · rw [aftersOf_some (by simpa using ho)] at he
      obtain ⟨e', he', rfl⟩ := List.mem_map.1 he
      obtain ⟨hm, hb⟩ := List.mem_filter.1 he'
      exact h2 e' (by simpa using hm) hb
  · rintro ⟨hlt, h1, h2⟩
    refine ⟨?_, ops[i], Array.getElem?_eq_getElem hlt, fun e he hb => ?_⟩
    · simp only [lfOf, Array.getD_eq_getD_getElem?] at h1 ⊢
      rw [Array.getElem?_eq_getElem (by omega)] at h1 ⊢
      simpa using h1
    · refine h2 _ ?_
      rw [aftersOf_some (o := ops[i]) (by simp [hlt])]
      exact List.mem_map.2 ⟨e, List.mem_filter.2 ⟨by simpa using he, hb⟩, rfl⟩
theorem draw_tailF (he : E.Ok) {D : List (List Nat)} (T : DTextF ops.toList D n0) (hQ : ∀ a w, (∃ st', SimX E.W S st' a w ∧ K st') → Q .normal a w) :
    ∀ (fuel m : Nat) (listed : Array Bool) (st : ASt) (a : Act) (w : World), listed.size = ops.size → n0 < m → (∀ j, j < ops.size → lfOf listed j = decide (j < m)) → ops.size - m ≤ fuel → SimX E.W S st a w → arun E S ops.toList (ops.toList.drop m) st K → wpAny E.P .any ops Q fuel listed a w := by
  intro fuel
  induction fuel with
  | zero =>
    intro m listed st a w hs hm hl hf h hk
    rw [List.drop_eq_nil_of_le (by simp; omega)] at hk
    refine ⟨?_, hQ a w ⟨st, h, hk⟩⟩
    rw [List.eq_nil_iff_forall_not_mem]
    intro i hi
    obtain ⟨h1, h2, _⟩ := (ready_lfF hs).1 hi
    rw [hl i h1] at h2
    simp at h2
    omega
  | succ fuel ih =>
    intro m listed st a w hs hm hl hf h hk
    have hready : ∀ i, i ∈ Region.ready .any ops listed ↔ i = m ∧ m < ops.size := by
      intro i
      rw [ready_lfF hs]
      constructor
      · rintro ⟨h1, h2, h3⟩
        rw [hl i h1] at h2
        simp at h2
        have hc : ∀ j, lfOf listed j = true → ∀ e ∈ aftersOf ops.toList j, lfOf listed e = true := by
          intro j hj e hej
          by_cases hjs : j < ops.size
          · rw [hl j hjs] at hj
            rw [aftersOf_some (o := ops[j]) (by simp [hjs])] at hej
            have := T.edge j ops[j] (by simp [hjs]) _ hej
            rw [hl _ (by omega)]
            simp at hj ⊢
            omega
          · simp [lfOf, Array.getD_eq_getD_getElem?, Array.getElem?_eq_none (show listed.size ≤ j by omega)] at hj
        refine ⟨?_, by omega⟩
        apply Nat.le_antisymm _ h2
        apply Nat.le_of_not_lt
        intro hlt
        have := deps_listedF T hc h3 (T.tail i (by omega) (by simpa using h1) m hlt)
        rw [hl m (by omega)] at this
        simp at this
      · rintro ⟨rfl, h1⟩
        refine ⟨h1, by rw [hl i h1]; simp, fun e hej => ?_⟩
        rw [aftersOf_some (o := ops[i]) (by simp [h1])] at hej
        have := T.edge i ops[i] (by simp [h1]) _ hej
        rw [hl _ (by omega)]
        simpa using this
    refine ⟨fun hnil => ?_, fun i hi => ?_⟩
    · have : ops.size ≤ m := by
        apply Nat.le_of_not_lt
        intro hlt
        have := (hready m).2 ⟨rfl, hlt⟩
        rw [hnil] at this
        cases this
      rw [List.drop_eq_nil_of_le (by simpa using this)] at hk
      exact hQ a w ⟨st, h, hk⟩
    · obtain ⟨rfl, hlt⟩ := (hready i).1 hi
      rw [List.drop_eq_getElem_cons (by simpa using hlt)] at hk
      unfold wpOp
      rw [Array.getElem?_eq_getElem hlt]
      have next : ∀ st' a' w', SimX E.W S st' a' w' → arun E S ops.toList (ops.toList.drop (i + 1)) st' K → wpAny E.P .any ops Q fuel (listed.setIfInBounds i true) a' w' := by
        intro st' a' w' h' hk'
        refine ih (i + 1) _ st' a' w' (by simpa using hs) (by omega) (fun j hj => ?_) (by omega) h' hk'
        rw [lfOf_set (by omega)]
        simp only []
        rw [hl j hj]
        by_cases hji : j = i
        · subst hji; simp [Nat.beq_refl]
        · have : Nat.beq j i = false := by
            cases h' : Nat.beq j i with
            | false => rfl
            | true => exact absurd (Nat.eq_of_beq_eq_true h') hji
          simp [this]
          omega
      obtain ⟨Z, ρ, h⟩ := h
      simp only [Array.getElem_toList] at hk
      rcases aGuard_get h hk with ⟨hw, st', hs', hk⟩ | ⟨hw, st', hs', hk⟩
      · simp only [Array.toArray_toList] at hw
        simp only [hw, if_true]
        refine .inl (Oper.wp_mono (fun a' w' h' => ?_) (aop_sound he hs' hk Q))
        obtain ⟨st2, h2, hk2⟩ := h'
        exact next st2 a' w' h2 hk2
      · simp only [Array.toArray_toList] at hw
        simp only [hw, Bool.false_eq_true, if_false]
        have := hs'.put ops[i].dst (x := .one .und) (v := undef) (.one _ _ (show RelC Z w ρ .und undef from rfl))
        exact next _ _ w ⟨Z, ρ, this⟩ (aDst_put hk)
theorem draw_headF (he : E.Ok) {D : List (List Nat)} {m : Nat} (T : DTextF ops.toList D m) (F : Flt E S ops.toList D m R0 R1 st0 st1) (hQ : ∀ a w, (∃ st', SimX E.W S st' a w ∧ K st') → Q .normal a w)
    (ht : aAfter (ops.toList.take m) R1 st1 fun st => arun E S ops.toList (ops.toList.drop (m + 1)) st K) :
    ∀ (fuel : Nat) (listed : Array Bool) (a : Act) (w : World), listed.size = ops.size → (∀ j, m < j → lfOf listed j = false) → (∀ j, lfOf listed j = true → ∀ e ∈ aftersOf ops.toList j, lfOf listed e = true) → cntU (lfOf listed) ops.size ≤ fuel →
      (lfOf listed m = false → SimX E.W S (stS ops.toList R0 m st0 (lfOf listed)) a w) → (lfOf listed m = true → SimX E.W S (stS ops.toList R1 m st1 (lfOf listed)) a w) → wpAny E.P .any ops Q fuel listed a w := by
  intro fuel
  have hle : m ≤ ops.toList.length := T.le
  have hlt0 : m < ops.toList.length := T.lt
  have hle' : m < ops.size := by simpa using hlt0
  induction fuel with
  | zero =>
    intro listed a w hs htl hc hf h0 h1
    have hall := cntU_zero (Nat.le_zero.1 hf)
    have h := h1 (hall m hle')
    have hn0 : ops.size ≤ m + 1 := by
      apply Nat.le_of_not_lt
      intro hlt
      have h1 := hall (m + 1) hlt
      rw [htl (m + 1) (by omega)] at h1
      cases h1
    refine ⟨?_, hQ a w ⟨_, h, ?_⟩⟩
    · rw [List.eq_nil_iff_forall_not_mem]
      intro i hi
      obtain ⟨h1, h2, _⟩ := (ready_lfF hs).1 hi
      rw [hall i h1] at h2
      cases h2
    · have := aAfter_get hle ht
      rw [List.drop_eq_nil_of_le (by simpa using hn0)] at this
      have e : stS ops.toList R1 m st1 (lfOf listed) = stS ops.toList R1 m st1 fun _ => true := stS_congr fun j hj => by rw [hall j (by omega)]
      rw [e]
      exact this
  | succ fuel ih =>
    intro listed a w hs htl hc hf h0 h1
    by_cases hall : ∀ j, j < m + 1 → lfOf listed j = true
    · have h := h1 (hall m (by omega))
      have e : stS ops.toList R1 m st1 (lfOf listed) = stS ops.toList R1 m st1 fun _ => true := stS_congr fun j hj => by rw [hall j (by omega)]
      rw [e] at h
      have h2 := cntU_ge (m := m + 1) (fun j hj => htl j (by omega)) (n := ops.size)
      refine draw_tailF he T hQ (fuel + 1) (m + 1) listed _ a w hs (by omega) (fun j hj => ?_) (by omega) h (aAfter_get hle ht)
      by_cases hj0 : j < m + 1
      · rw [hall j hj0]; simp [hj0]
      · rw [htl j (by omega)]; simp [hj0]
    · refine ⟨fun hnil => ?_, fun i hi => ?_⟩
      · exfalso
        apply hall
        intro j
        induction j using Nat.strongRecOn with
        | ind j ihj =>
          intro hj
          cases hlj : lfOf listed j with
          | true => rfl
          | false =>
            have : j ∈ Region.ready .any ops listed := (ready_lfF hs).2 ⟨by omega, hlj, fun e hej => by
              have hjs : j < ops.size := by omega
              rw [aftersOf_some (o := ops[j]) (by simp [hjs])] at hej
              have := T.edge j ops[j] (by simp [hjs]) _ hej
              exact ihj _ this (by omega)⟩
            rw [hnil] at this
            cases this
      · obtain ⟨hlt, hli, haf⟩ := (ready_lfF hs).1 hi
        have hi0 : i ≤ m := by
          apply Nat.le_of_not_lt
          intro hge
          apply hall
          intro j hj
          exact deps_listedF T hc haf (T.tail i hge (by simpa using hlt) j (by omega))
        have hDl : ∀ j, inD D j i = true → lfOf listed j = true := fun j hj => deps_listedF T hc haf hj
        have hAl : ∀ j, j < m → inD D i j = true → lfOf listed j = false := fun j _ hj => by
          cases hlj : lfOf listed j with
          | false => rfl
          | true =>
            have := deps_listedF T hc (hc j hlj) hj
            rw [hli] at this
            cases this
        have hget : ops.toList[i]? = some ops[i] := by simp [hlt]
        have elf := lfOf_set (listed := listed) (i := i) (by omega)
        have next : ∀ a' w', (lfOf listed m = false → i ≠ m → SimX E.W S (stS ops.toList R0 m st0 fun j => lfOf listed j || Nat.beq j i) a' w') → (lfOf listed m = true ∨ i = m → SimX E.W S (stS ops.toList R1 m st1 fun j => lfOf listed j || Nat.beq j i) a' w') → wpAny E.P .any ops Q fuel (listed.setIfInBounds i true) a' w' := fun a' w' h0' h1' => by
          have bim : Nat.beq m i = true ↔ i = m := ⟨fun e => (Nat.eq_of_beq_eq_true e).symm, fun e => by rw [e]; exact Nat.beq_refl m⟩
          refine ih _ a' w' (by simpa using hs) (fun j hj => ?_) (fun j hj e' hej => ?_) ?_ (fun hm => ?_) (fun hm => ?_)
          · rw [elf]
            simp only [htl j hj, Bool.false_or]
            cases hb : Nat.beq j i with
            | false => rfl
            | true => have := Nat.eq_of_beq_eq_true hb; omega
          · rw [elf] at hj ⊢
            simp only [Bool.or_eq_true] at hj ⊢
            rcases hj with hj | hj
            · exact .inl (hc j hj e' hej)
            · rw [Nat.eq_of_beq_eq_true hj] at hej
              exact .inl (haf e' hej)
          · rw [elf]
            have := (cntU_lt hli (n := ops.size)).2 hlt
            omega
          · rw [elf] at hm ⊢
            simp only [Bool.or_eq_false_iff] at hm
            exact h0' hm.1 (fun e => by rw [bim.2 e] at hm; exact absurd hm.2 (by simp))
          · rw [elf] at hm ⊢
            simp only [Bool.or_eq_true] at hm
            exact h1' (hm.imp_right bim.1)
        by_cases him : i = m
        · subst him
          obtain ⟨hgu, hst⟩ := F.step ops[i] hget
          unfold wpOp
          rw [Array.getElem?_eq_getElem hlt]
          simp only
          have hw : Region.wanted ops[i] (yielded ops a.tmps) = true := by simp [Region.wanted, hgu]
          rw [if_pos hw]
          refine .inl (Oper.wp_mono (fun a' w' h' => ?_) (hst (lfOf listed) hDl a w (h0 hli) Q))
          refine next a' w' (fun _ hne => absurd rfl hne) fun _ => ?_
          have e : stS ops.toList R1 i st1 (fun j => lfOf listed j || Nat.beq j i) = stS ops.toList R1 i st1 (lfOf listed) := stS_congr fun j hj => by
            have : Nat.beq j i = false := by
              cases hb : Nat.beq j i with
              | false => rfl
              | true => have := Nat.eq_of_beq_eq_true hb; omega
            rw [this, Bool.or_false]
          rw [e]
          exact h'
        · have hi1 : i < m := by omega
          cases hlm : lfOf listed m with
          | false =>
            have step := draw_step (Kont := wpAny E.P .any ops Q fuel (listed.setIfInBounds i true)) (Q := Q) F.F0 hi1 hget hli hDl hAl (h0 hlm) fun a' w' h' => next a' w' (fun _ _ => h') fun hm => by
              rcases hm with hm | hm
              · rw [hlm] at hm; cases hm
              · exact absurd hm him
            simp only [Array.toArray_toList] at step
            unfold wpOp
            rw [Array.getElem?_eq_getElem hlt]
            simp only
            split
            · rename_i hw; exact .inl (step.1 hw)
            · rename_i hw; exact step.2 (by simpa using hw)
          | true =>
            have hnm : inD D i m = false := by
              cases hx : inD D i m with
              | false => rfl
              | true =>
                have := deps_listedF T hc (hc m hlm) hx
                rw [hli] at this
                cases this
            have step := draw_stepP (Kont := wpAny E.P .any ops Q fuel (listed.setIfInBounds i true)) (Q := Q) F.B1 hi1 hget hli hDl hAl (stP_sub (D := D) F.B1.nd F.B1.len F.B1.ob hli (fun j _ h => hDl j h) hAl) (F.out1 i _ hi1 hnm hget) (h1 hlm) fun a' w' h' => next a' w' (fun hm => by rw [hlm] at hm; cases hm) fun _ => h'
            simp only [Array.toArray_toList] at step
            unfold wpOp
            rw [Array.getElem?_eq_getElem hlt]
            simp only
            split
            · rename_i hw; exact .inl (step.1 hw)
            · rename_i hw; exact step.2 (by simpa using hw)
theorem AWP.drawFlt (he : E.Ok) {K : Exit → ASt → Prop} {id m : Nat} {D : List (List Nat)} (T : DTextF ops.toList D m) (F : Flt E S ops.toList D m R0 R1 st0 st1)
    (ht : aAfter (ops.toList.take m) R1 st1 fun st => arun E S ops.toList (ops.toList.drop (m + 1)) st (K .normal)) : AWP E S (.region id ops true) K st0 := by
  refine ⟨fun a w hs => wp_region_any he.mixed ?_⟩
  have hg : w.grownBy { w with drawn := w.drawn + 1 } none := ⟨rfl, rfl, rfl, Nat.le_refl _, fun b hb _ => rfl⟩
  have e1 : ∀ j, lfOf (Array.replicate ops.size false) j = false := fun j => by
    simp [lfOf, Array.getD_eq_getD_getElem?, Array.getElem?_replicate]
    split <;> rfl
  refine draw_headF (Q := fun e a' w' => ∃ st', SimX E.W S st' a' w' ∧ K e st') he T F (fun a w h => h) ht ops.size (Array.replicate ops.size false) a _ (by simp) (fun j _ => e1 j) (fun j hj => ?_) ?_ (fun _ => ?_) (fun hm => ?_)
  · rw [e1] at hj; cases hj
  · have : ∀ (lf : Nat → Bool) n, cntU lf n ≤ n := fun lf n => by
      induction n with
      | zero => exact Nat.le_refl _
      | succ n ih => simp only [cntU]; split <;> omega
    exact this _ _
  · obtain ⟨Z, ρ, hs⟩ := hs
    have e : stS ops.toList R0 m st0 (lfOf (Array.replicate ops.size false)) = st0 := by
      have e2 : (List.range m).filterMap (upS ops.toList R0 (lfOf (Array.replicate ops.size false))) = [] := by
        rw [List.filterMap_eq_nil_iff]; intro j _; simp [upS, e1]
      have e3 : (List.range m).filterMap (obF ops.toList R0 (lfOf (Array.replicate ops.size false))) = [] := by
        rw [List.filterMap_eq_nil_iff]; intro j _; simp [obF, e1]
      simp [stS, e2, e3, setsL]
    rw [e]
    exact ⟨Z, ρ, hs.grow hg (fun _ h => h) fun _ h => .inl h⟩
  · rw [e1] at hm; cases hm
end

def aFactsL (E : AEnv) (D : List (List Nat)) (pre : List Oper) (R : List (AV × Option AO)) (st : ASt) (m : Nat) : List Oper → List (AV × Option AO) → Nat → Prop
  | [], [], _ => True
  | o :: ops, r :: rs, i => (match inD D i m with
    | true => True
    | false => aFact E D pre R st i o r) ∧ aFactsL E D pre R st m ops rs (i + 1)
  | _, _, _ => False
theorem aFactsL_get {E : AEnv} {D : List (List Nat)} {pre : List Oper} {R : List (AV × Option AO)} {st : ASt} {m : Nat} : ∀ {ops : List Oper} {rs : List (AV × Option AO)} {i : Nat}, aFactsL E D pre R st m ops rs i → ∀ k o, ops[k]? = some o → inD D (i + k) m = false → ∃ r, rs[k]? = some r ∧ aFact E D pre R st (i + k) o r
  | [], _, _, _, k, o, h, _ => by simp at h
  | o' :: ops, [], _, h, k, o, _, _ => h.elim
  | o' :: ops, r :: rs, i, h, k, o, ho, hn => by
    cases k with
    | zero =>
      simp at ho
      subst ho
      have h1 := h.1
      rw [show i + 0 = i from rfl] at hn
      rw [hn] at h1
      exact ⟨r, rfl, h1⟩
    | succ k =>
      obtain ⟨r', h1, h2⟩ := aFactsL_get h.2 k o (by simpa using ho) (by rwa [show i + 1 + k = i + (k + 1) by omega])
      exact ⟨r', by simpa using h1, by rwa [show i + (k + 1) = i + 1 + k by omega]⟩
section
variable {E : AEnv} {S : Base} {ops : List Oper} {D : List (List Nat)} {R0 R1 : List (AV × Option AO)} {m : Nat} {st0 st1 : ASt}
theorem stS_tm (hv : ∀ j, j < m → vAt R1 j = vAt R0 j) (ht : st1.tm = st0.tm) (l : Nat → Bool) : (stS ops R1 m st1 l).tm = (stS ops R0 m st0 l).tm := by
  have e : (List.range m).filterMap (upS ops R1 l) = (List.range m).filterMap (upS ops R0 l) := fmCongr fun j hj => by simp only [upS, hv j (List.mem_range.1 hj)]
  show setsL st1.tm ((List.range m).filterMap (upS ops R1 l)) = setsL st0.tm ((List.range m).filterMap (upS ops R0 l))
  rw [e, ht]
theorem flt_of (he : E.Ok) (T : DTextF ops D m) (F0 : DFacts E S ops D R0 m st0) (B1 : DBase ops D R1 m st1) {t : TypeId} {jx jv dx dv c k s off : Nat} {o0 o1 : AO}
    (hop : ∃ o, ops[m]? = some o ∧ o.op = .store t (.tmp dx) (.tmp dv) ∧ o.dst = none ∧ o.guard = none) (hdx : dAt ops jx = dx) (hdv : dAt ops jv = dv) (hjx : inD D jx m = true) (hjv : inD D jv m = true)
    (hv : ∀ j, j < m → vAt R1 j = vAt R0 j) (ht : st1.tm = st0.tm) (hvx : vAt R0 jx = .one (.ref c k s off)) (hst : aStore E ⟨[], [(c, o0)]⟩ t (.one (.ref c k s off)) (vAt R0 jv) fun st => st = ⟨[], [(c, o1)]⟩)
    (hget : ∀ l : Nat → Bool, (∀ j, inD D j m = true → l j = true) → oget (stS ops R0 m st0 l).ob c = some o0)
    (hsub : ∀ l : Nat → Bool, (∀ j, inD D j m = true → l j = true) → SubO (oset (stS ops R0 m st0 l).ob c o1) (stS ops R1 m st1 l).ob)
    (hl : R1.length = m) (hf : aFactsL E D (ops.take m) R1 st1 m (ops.take m) R1 0) : Flt E S ops D m R0 R1 st0 st1 := by
  refine ⟨F0, B1, fun i o hi hn ho => ?_, fun o ho => ?_⟩
  · obtain ⟨r, hr, hfact⟩ := aFactsL_get hf i o (by rw [List.getElem?_take, if_pos hi]; exact ho) (by rwa [Nat.zero_add])
    rw [Nat.zero_add] at hfact
    exact out_ofF he T hi hr hfact
  · obtain ⟨o', ho', hstore, hdst, hgu⟩ := hop
    rw [ho] at ho'
    injection ho' with ho'
    subst ho'
    refine ⟨hgu, fun l hlD a w hs Q => ?_⟩
    obtain ⟨Z, ρ, hs⟩ := hs
    have hjx' : jx < m := inD_ltF T T.lt hjx
    have hjv' : jv < m := inD_ltF T T.lt hjv
    have g := good_store (K := fun st => st = ⟨(stS ops R0 m st0 l).tm, oset (stS ops R0 m st0 l).ob c o1⟩) he hs hstore (by
      refine aTm_mk (x := vAt R0 jx) (by rw [← hdx]; exact stS_at F0.nd hjx' (hlD jx hjx) (F0.len jx hjx')) ?_
      refine aTm_mk (x := vAt R0 jv) (by rw [← hdv]; exact stS_at F0.nd hjv' (hlD jv hjv) (F0.len jv hjv')) ?_
      rw [hvx, hdst]
      exact aStore_lift (hget l hlD) hst)
    refine Oper.wp_mono (fun a' w' h' => ?_) (g Q)
    obtain ⟨st', h1, h2⟩ := h'
    subst h2
    refine h1.sub ?_ (hsub l hlD)
    rw [stS_tm hv ht]
    exact SubL.of_get rfl fun s x y hx hy => by
      rw [hx] at hy
      injection hy with hy
      rw [hy]
      exact .refl _
/-- The object is there before. -/
theorem flt_old (he : E.Ok) (T : DTextF ops D m) (F0 : DFacts E S ops D R0 m st0) (hlm : lenB ops m st0.tm.length = true) {t : TypeId} {jx jv dx dv c k s off : Nat} {o0 o1 : AO}
    (hop : ∃ o, ops[m]? = some o ∧ o.op = .store t (.tmp dx) (.tmp dv) ∧ o.dst = none ∧ o.guard = none) (hdx : dAt ops jx = dx) (hdv : dAt ops jv = dv) (hjx : inD D jx m = true) (hjv : inD D jv m = true)
    (hvx : vAt R0 jx = .one (.ref c k s off)) (hc : oget st0.ob c = some o0) (hst : aStore E ⟨[], [(c, o0)]⟩ t (.one (.ref c k s off)) (vAt R0 jv) fun st => st = ⟨[], [(c, o1)]⟩)
    (hno : noB ops D R0 m ⟨st0.tm, oset st0.ob c o1⟩ = true)
    (hl : R0.length = m) (hf : aFactsL E D (ops.take m) R0 ⟨st0.tm, oset st0.ob c o1⟩ m (ops.take m) R0 0) : Flt E S ops D m R0 R0 st0 ⟨st0.tm, oset st0.ob c o1⟩ := by
  have hfar : ∀ j, j < m → oAt R0 j ≠ none → c ≠ dAt ops j := fun j hj hne e => by
    have := F0.ob j hj hne
    rw [← e, hc] at this
    cases this
  refine flt_of he T F0 (base_ofF T hlm hno) hop hdx hdv hjx hjv (fun _ _ => rfl) rfl hvx hst (fun l _ => ?_) (fun l _ id o ho => ?_) hl hf
  · rw [stS_ob F0.nd]
    exact .inr ⟨fun j hj _ e => by
      cases ho2 : oAt R0 j with
      | none => rfl
      | some o2 => exact absurd e.symm (hfar j hj (by rw [ho2]; simp)), hc⟩
  · rw [stS_ob F0.nd] at ho
    rw [oget_oset]
    rcases ho with ⟨j, hj, hlj, e, h⟩ | ⟨h, hb⟩
    · rw [if_neg (fun e' => hfar j hj (by rw [h]; simp) (by rw [e, e'])), stS_ob F0.nd]
      exact .inl ⟨j, hj, hlj, e, h⟩
    · have hb : oget (oset st0.ob c o1) id = some o := hb
      rw [oget_oset] at hb
      by_cases hci : c = id
      · rw [if_pos hci] at hb ⊢
        exact hb
      · rw [if_neg hci] at hb ⊢
        rw [stS_ob F0.nd]
        exact .inr ⟨h, hb⟩
/-- The object is made by a free operation that the store waits for. -/
theorem flt_new (he : E.Ok) (T : DTextF ops D m) (F0 : DFacts E S ops D R0 m st0) (hlm : lenB ops m st0.tm.length = true) {t : TypeId} {jx jv j0 dx dv c k s off : Nat} {o0 o1 : AO}
    (hop : ∃ o, ops[m]? = some o ∧ o.op = .store t (.tmp dx) (.tmp dv) ∧ o.dst = none ∧ o.guard = none) (hdx : dAt ops jx = dx) (hdv : dAt ops jv = dv) (hjx : inD D jx m = true) (hjv : inD D jv m = true)
    (hj0 : inD D j0 m = true) (hd0 : dAt ops j0 = c) (ho0 : oAt R0 j0 = some o0)
    (hvx : vAt R0 jx = .one (.ref c k s off)) (hst : aStore E ⟨[], [(c, o0)]⟩ t (.one (.ref c k s off)) (vAt R0 jv) fun st => st = ⟨[], [(c, o1)]⟩)
    (hno : noB ops D (R0.set j0 (vAt R0 j0, some o1)) m st0 = true)
    (hl : R0.length = m) (hf : aFactsL E D (ops.take m) (R0.set j0 (vAt R0 j0, some o1)) st0 m (ops.take m) (R0.set j0 (vAt R0 j0, some o1)) 0) : Flt E S ops D m R0 (R0.set j0 (vAt R0 j0, some o1)) st0 st0 := by
  have hj0' : j0 < m := inD_ltF T T.lt hj0
  have hv : ∀ j, j < m → vAt (R0.set j0 (vAt R0 j0, some o1)) j = vAt R0 j := fun j hj => by
    by_cases e : j = j0
    · subst e; exact vAt_at (by omega)
    · exact vAt_set e
  refine flt_of he T F0 (base_ofF T hlm hno) hop hdx hdv hjx hjv hv rfl hvx hst (fun l hlD => ?_) (fun l hlD id o ho => ?_) (by simpa using hl) hf
  · rw [stS_ob F0.nd]
    exact .inl ⟨j0, hj0', hlD j0 hj0, hd0, ho0⟩
  · rw [stS_ob F0.nd] at ho
    rw [oget_oset]
    rcases ho with ⟨j, hj, hlj, e, h⟩ | ⟨h, hb⟩
    · by_cases hjj : j = j0
      · subst hjj
        rw [oAt_at (by omega)] at h
        rw [if_pos (by rw [← hd0, e])]
        exact h
      · rw [oAt_set hjj] at h
        rw [if_neg (fun e' => hjj (d_inj F0.nd hj hj0' (by rw [e, hd0, e']))), stS_ob F0.nd]
        exact .inl ⟨j, hj, hlj, e, h⟩
    · have hne : c ≠ id := fun e => by
        have := h j0 hj0' (hlD j0 hj0) (by rw [hd0, e])
        rw [oAt_at (by omega)] at this
        cases this
      rw [if_neg hne, stS_ob F0.nd]
      refine .inr ⟨fun j hj hlj e => ?_, hb⟩
      have := h j hj hlj e
      by_cases hjj : j = j0
      · subst hjj
        exact absurd (by rw [← hd0, e]) hne
      · rwa [oAt_set hjj] at this
end
section
variable {E : AEnv} {S : Base} {ops : Array Oper}
theorem drawS_head (he : E.Ok) {st : ASt} {m : Nat} {D FL : List (List Nat)} {K : List (AV × Option AO) → Prop} (hD : depsOf [] ops.toList = D) (hok : drawOKF ops.toList D m = true) (hfl : ((List.range m).map fun i => (List.range m).map (flP D i)) = FL)
    (h : aDrawK E (ops.toList.take m) st (ops.toList.take m) FL 0 (List.replicate m (.one .dead, none)) K) : ∃ R, K R ∧ ∀ j o, j < m → ops.toList[j]? = some o → DOut E S D R m (stP ops.toList D R m st j) j o := by
  have T := drawOKF_text hD hok
  have hlen : (ops.toList.take m).length = m := by have := T.le; simp at *; omega
  subst hfl
  have e : ((List.range m).map fun i => (List.range m).map (flP D i)) = ((List.range' 0 (ops.toList.take m).length).map fun i => (List.range m).map (flP D i)) := by rw [hlen, ← List.range_eq_range']
  rw [e] at h
  exact drawK_getF (S := S) he T (ops.toList.take m) 0 (List.replicate m (.one .dead, none)) (fun k => by simp) (by simp) (fun j o hj => absurd hj (Nat.not_lt_zero _)) h
theorem AWP.drawSO (he : E.Ok) {K : Exit → ASt → Prop} (id : Nat) {tm : List AV} {ob : List (Nat × AO)} (m : Nat) (D FL : List (List Nat)) (jx jv : Nat) {t : TypeId} {dx dv : Nat} (hD : depsOf [] ops.toList = D) (hok : drawOKF ops.toList D m = true) (hfl : ((List.range m).map fun i => (List.range m).map (flP D i)) = FL) (hl : lenB ops.toList m tm.length = true)
    (hop : ∃ o, ops.toList[m]? = some o ∧ o.op = .store t (.tmp dx) (.tmp dv) ∧ o.dst = none ∧ o.guard = none) (hdx : dAt ops.toList jx = dx) (hdv : dAt ops.toList jv = dv) (hjx : inD D jx m = true) (hjv : inD D jv m = true)
    (h : aDrawK E (ops.toList.take m) ⟨tm, ob⟩ (ops.toList.take m) FL 0 (List.replicate m (.one .dead, none)) fun R => ∃ c k s off o0 o1, vAt R jx = .one (.ref c k s off) ∧ oget ob c = some o0 ∧ R.length = m ∧ noB ops.toList D R m ⟨tm, ob⟩ = true ∧
      (aStore E ⟨[], [(c, o0)]⟩ t (.one (.ref c k s off)) (vAt R jv) fun st => st = ⟨[], [(c, o1)]⟩) ∧ aSetO c o1 ob fun ob => noB ops.toList D R m ⟨tm, ob⟩ = true ∧ aFactsL E D (ops.toList.take m) R ⟨tm, ob⟩ m (ops.toList.take m) R 0 ∧
      aAfter (ops.toList.take m) R ⟨tm, ob⟩ fun st => arun E S ops.toList (ops.toList.drop (m + 1)) st (K .normal)) : AWP E S (.region id ops true) K ⟨tm, ob⟩ := by
  have T := drawOKF_text hD hok
  obtain ⟨R, ⟨c, k, s, off, o0, o1, hvx, hc, hlR, hno, hst, h1⟩, hf⟩ := drawS_head (S := S) he hD hok hfl h
  obtain ⟨hno1, hfL, ht⟩ := aSetO_get h1
  exact AWP.drawFlt he T (flt_old he T ⟨base_ofF T hl hno, hf⟩ hl hop hdx hdv hjx hjv hvx hc hst hno1 hlR hfL) ht
theorem AWP.drawSN (he : E.Ok) {K : Exit → ASt → Prop} (id : Nat) {tm : List AV} {ob : List (Nat × AO)} (m : Nat) (D FL : List (List Nat)) (jx jv j0 : Nat) {t : TypeId} {dx dv : Nat} (hD : depsOf [] ops.toList = D) (hok : drawOKF ops.toList D m = true) (hfl : ((List.range m).map fun i => (List.range m).map (flP D i)) = FL) (hl : lenB ops.toList m tm.length = true)
    (hop : ∃ o, ops.toList[m]? = some o ∧ o.op = .store t (.tmp dx) (.tmp dv) ∧ o.dst = none ∧ o.guard = none) (hdx : dAt ops.toList jx = dx) (hdv : dAt ops.toList jv = dv) (hjx : inD D jx m = true) (hjv : inD D jv m = true) (hj0 : inD D j0 m = true)
    (h : aDrawK E (ops.toList.take m) ⟨tm, ob⟩ (ops.toList.take m) FL 0 (List.replicate m (.one .dead, none)) fun R => ∃ c k s off o0 o1, vAt R jx = .one (.ref c k s off) ∧ oAt R j0 = some o0 ∧ dAt ops.toList j0 = c ∧ R.length = m ∧ noB ops.toList D R m ⟨tm, ob⟩ = true ∧
      (aStore E ⟨[], [(c, o0)]⟩ t (.one (.ref c k s off)) (vAt R jv) fun st => st = ⟨[], [(c, o1)]⟩) ∧ aSetN R j0 (vAt R j0, some o1) fun R => noB ops.toList D R m ⟨tm, ob⟩ = true ∧ aFactsL E D (ops.toList.take m) R ⟨tm, ob⟩ m (ops.toList.take m) R 0 ∧
      aAfter (ops.toList.take m) R ⟨tm, ob⟩ fun st => arun E S ops.toList (ops.toList.drop (m + 1)) st (K .normal)) : AWP E S (.region id ops true) K ⟨tm, ob⟩ := by
  have T := drawOKF_text hD hok
  obtain ⟨R, ⟨c, k, s, off, o0, o1, hvx, ho0, hd0, hlR, hno, hst, h1⟩, hf⟩ := drawS_head (S := S) he hD hok hfl h
  obtain ⟨hno1, hfL, ht⟩ := aSetN_get h1
  exact AWP.drawFlt he T (flt_new he T ⟨base_ofF T hl hno, hf⟩ hl hop hdx hdv hjx hjv hj0 hd0 ho0 hvx hst hno1 hlR hfL) ht
end
end Go.Proofs.YtmgcnmdbhahhlaaGreat
namespace Go.Proofs.YtmgcnmdbhahhlaaGreat
open Go.RowKit

def pvOf : AD → Value
  | .pv v => v
  | _ => undef
def AD.isPv : AD → Bool
  | .pv _ => true
  | _ => false
def AP1.pl : AP1 → Value
  | .one d => pvOf d
  | .agg ds => .agg (ds.map pvOf).toArray
def AP1.isPl : AP1 → Bool
  | .one d => d.isPv
  | .agg ds => ds.all AD.isPv
theorem relD_pl {Z : Nat → Prop} {w : World} {d : AD} {u : Value} (h : d.isPv = true) (hr : RelD Z w d u) : u = pvOf d := by
  cases hr with
  | pv => rfl
  | sl => cases h
  | x => cases h
theorem relP_pl {Z : Nat → Prop} {w : World} {p : AP1} {u : Value} (h : p.isPl = true) (hr : RelP1 Z w p u) : u = p.pl := by
  cases p with
  | one d => exact relD_pl h hr
  | agg ds =>
    obtain ⟨us, rfl, hl, hh⟩ := hr
    have : us = ds.map pvOf := by
      apply List.ext_getElem? 
      intro i
      rw [List.getElem?_map]
      cases hd : ds[i]? with
      | none => rw [List.getElem?_eq_none]; rfl; rw [hl]; exact List.getElem?_eq_none_iff.1 hd
      | some d =>
        have hlt : i < us.length := by rw [hl]; exact (List.getElem?_eq_some_iff.1 hd).1
        rw [List.getElem?_eq_getElem hlt]
        have hp : d.isPv = true := List.all_eq_true.1 h d (List.mem_of_getElem? hd)
        simp [relD_pl hp (hh i d us[i] hd (List.getElem?_eq_getElem hlt))]
    rw [this]
    rfl
theorem gz_w {E : AEnv} (he : E.Ok) {Z : Nat → Prop} {w : World} (h : GZ E.W Z w) : E.W w := by
  obtain ⟨w1, h1, h2, _⟩ := h
  exact he.below w1 w h1 h2
/-- A contract on values alone. -/
theorem PCall.plain {E : AEnv} (he : E.Ok) {f : FuncId} {args : List AP1} {v : Value} (enter : ∀ (us : Array Value) w, (callFunc f us).run E.P w = .ok (.enter f us) w) (hp : args.all AP1.isPl = true) (hv : v.oneCell' = true)
    (h : ∀ w, E.W w → Calls E.P f (args.map AP1.pl).toArray w fun e w' => e = .returned v ∧ Below w.heap.size w w') : PCall E f args (.val (.one (.pv v))) := by
  refine ⟨enter, fun Z w us hz hg hl hr => ?_⟩
  have : us = args.map AP1.pl := by
    apply List.ext_getElem?
    intro i
    rw [List.getElem?_map]
    cases hd : args[i]? with
    | none => rw [List.getElem?_eq_none]; rfl; rw [hl]; exact List.getElem?_eq_none_iff.1 hd
    | some d =>
      have hlt : i < us.length := by rw [hl]; exact (List.getElem?_eq_some_iff.1 hd).1
      rw [List.getElem?_eq_getElem hlt]
      have hp : d.isPl = true := List.all_eq_true.1 hp d (List.mem_of_getElem? hd)
      simp [relP_pl hp (hr i d us[i] hd (List.getElem?_eq_getElem hlt))]
  subst this
  refine (h w (gz_w he hg)).mono ?_
  rintro e w' ⟨rfl, hb⟩
  exact ⟨v, Z, rfl, hb, fun _ h => h, fun _ h => .inl h, .pv v hv⟩
theorem below_eq {w w' : World} (h : w = w') : Below w.heap.size w w' := by subst h; exact Below.refl _ _
end Go.Proofs.YtmgcnmdbhahhlaaGreat
namespace Go.Proofs.YtmgcnmdbhahhlaaGreat
open Go.RowKit

theorem flat_eqG {α : Type} {us : List (List α)} {s : Nat} (h : ∀ u ∈ us, u.length = s) : ∀ {k r : Nat} {u : List α}, us[k]? = some u → r < s → us.flatten[k * s + r]? = u[r]? := by
  induction us with
  | nil => intro k r u hu; simp at hu
  | cons x l ih =>
    intro k r u hu hr
    have hx := h x (by simp)
    cases k with
    | zero =>
      simp at hu
      subst hu
      rw [List.flatten_cons, Nat.zero_mul, Nat.zero_add, List.getElem?_append_left (by omega)]
    | succ k =>
      rw [List.flatten_cons, List.getElem?_append_right (by rw [hx, Nat.succ_mul]; omega), hx, show (k + 1) * s + r - s = k * s + r by rw [Nat.succ_mul]; omega]
      exact ih (fun u hu => h u (by simp [hu])) (by simpa using hu) hr
theorem flat_lenG {α : Type} {us : List (List α)} {s : Nat} (h : ∀ u ∈ us, u.length = s) : us.flatten.length = us.length * s := by
  induction us with
  | nil => simp
  | cons x l ih => rw [List.flatten_cons, List.length_append, ih fun u hu => h u (by simp [hu]), h x (by simp), List.length_cons, Nat.succ_mul]; omega

/-- What a value reads as, and that it alone leads there: the blocks P hold it whole, and no block is met twice. -/
inductive RelT (w : World) : (Nat → Prop) → AD → Value → Prop
  | pv (P : Nat → Prop) (v : Value) (h1 : v.oneCell' = true) : RelT w P (.pv v) v
  | emp (P : Nat → Prop) (A : Option Addr) (cap : Nat) (hm : cap ≤ maxLen) : RelT w P (.sl []) (.slice A 0 cap)
  | sl (P : Nat → Prop) (xs : List (List AD)) (e : TypeId) (s : Nat) (us : List (List Value)) (v : Value) (Q : Nat → Nat → Prop)
      (hs : 0 < s) (hl : us.length = xs.length) (hx : ∀ x ∈ xs, x.length = s) (hu : ∀ u ∈ us, u.length = s)
      (hown : w.ownsRow 0 e s v xs.length us.flatten)
      (hb : ∀ b, blkOf v = some b → P b ∧ ∀ i, ¬ Q i b) (hQ : ∀ i b, Q i b → P b) (hd : ∀ i j b, Q i b → Q j b → i = j)
      (h : ∀ (i : Nat) a u, xs.flatten[i]? = some a → us.flatten[i]? = some u → RelT w (Q i) a u) : RelT w P (.sl xs) v

section
variable {w w' : World} {P P' : Nat → Prop} {d : AD} {v : Value}
theorem RelT.mono (hp : ∀ b, P b → P' b) (h : RelT w P d v) : RelT w P' d v := by
  cases h with
  | pv P v h1 => exact .pv _ _ h1
  | emp P A cap hm => exact .emp _ A cap hm
  | sl P xs e s us v Q hs hl hx hu hown hb hQ hd h => exact .sl _ xs e s us _ Q hs hl hx hu hown (fun b e => ⟨hp b (hb b e).1, (hb b e).2⟩) (fun i b q => hp b (hQ i b q)) hd h
theorem RelT.keep (h : RelT w P d v) (hk : ∀ b, P b → w'.heap[b]? = w.heap[b]?) : RelT w' P d v := by
  induction h with
  | pv P v h1 => exact .pv _ v h1
  | emp P A cap hm => exact .emp _ A cap hm
  | sl P xs e s us v Q hs hl hx hu hown hb hQ hd h ih =>
    refine .sl _ xs e s us v Q hs hl hx hu ⟨hown.1, ?_⟩ hb hQ hd fun i a u ha hu => ih i a u ha hu fun b q => hk b (hQ i b q)
    rcases hown.2 with h0 | ⟨g, cap, cur, hv, hbg, hg, r⟩
    · exact .inl h0
    · exact .inr ⟨g, cap, cur, hv, hbg, (hk g (hb g (by rw [hv]; rfl)).1).trans hg, r⟩
theorem RelT.one (h : RelT w P d v) : v.oneCell' = true := by
  cases h with
  | pv P v h1 => exact h1
  | emp P A cap hm => rfl
  | sl P xs e s us v Q hs hl hx hu hown hb hQ hd h => rcases hown.2 with ⟨hv, _⟩ | ⟨g, cap, cur, hv, _⟩ <;> rw [hv] <;> rfl
theorem RelT.relD {Z : Nat → Prop} (h : RelT w P d v) (hz : ∀ b, P b → Z b) : RelD Z w d v := by
  induction h with
  | pv P v h1 => exact .pv v h1
  | emp P A cap hm => exact .sl [] A cap 1 [] (Nat.zero_le _) hm rfl (by simp) (by simp) (.inl rfl) (by simp)
  | sl P xs e s us v Q hs hl hx hu hown hb hQ hd h ih =>
    have key : ∀ (i j : Nat) x u a b, xs[i]? = some x → us[i]? = some u → x[j]? = some a → u[j]? = some b → RelD Z w a b := fun i j x u a b h1 h2 h3 h4 => by
      have hj : j < s := by rw [← hx x (List.mem_of_getElem? h1)]; exact (List.getElem?_eq_some_iff.1 h3).1
      exact ih (i * s + j) a b (by rw [flat_eqG hx h1 hj]; exact h3) (by rw [flat_eqG hu h2 hj]; exact h4) fun b q => hz b (hQ _ b q)
    rcases hown.2 with ⟨hv, hn⟩ | ⟨g, cap, cur, hv, _, hg, h1, h2, h3, h4⟩
    · have : xs = [] := List.eq_nil_of_length_eq_zero hn
      subst this hv
      exact .sl [] none 0 0 [] (Nat.le_refl _) (Nat.zero_le _) rfl (by simp) (by simp) (.inl rfl) (by simp)
    · subst hv
      exact .sl xs _ cap s us h1 h2 hl hx hu (.inr ⟨g, 0, rfl, hz g (hb g rfl).1, fun i u hu => by rw [Nat.zero_add]; exact own_cell hown rfl hu⟩) key
end

/-- Values side by side, each with blocks of its own. -/
def FamT (w : World) (P : Nat → Prop) (ds : List AD) (us : List Value) : Prop :=
  us.length = ds.length ∧ ∃ Q : Nat → Nat → Prop, (∀ i b, Q i b → P b) ∧ (∀ i j b, Q i b → Q j b → i = j) ∧ ∀ (i : Nat) a u, ds[i]? = some a → us[i]? = some u → RelT w (Q i) a u
section
variable {w w' : World} {P P1 P2 P' : Nat → Prop} {ds d1 d2 : List AD} {us u1 u2 : List Value}
theorem FamT.mono (hp : ∀ b, P b → P' b) (h : FamT w P ds us) : FamT w P' ds us := by
  obtain ⟨l, Q, q, e, r⟩ := h
  exact ⟨l, Q, fun i b h => hp b (q i b h), e, r⟩
theorem FamT.keep (h : FamT w P ds us) (hk : ∀ b, P b → w'.heap[b]? = w.heap[b]?) : FamT w' P ds us := by
  obtain ⟨l, Q, q, e, r⟩ := h
  exact ⟨l, Q, q, e, fun i a u ha hu => (r i a u ha hu).keep fun b h => hk b (q i b h)⟩
theorem FamT.nil : FamT w P [] [] := ⟨rfl, fun _ _ => False, fun _ _ h => h.elim, fun _ _ _ h => h.elim, fun i a u ha => by simp at ha⟩
theorem FamT.append (h1 : FamT w P1 d1 u1) (h2 : FamT w P2 d2 u2) (hd : ∀ b, P1 b → P2 b → False) (a1 : ∀ b, P1 b → P b) (a2 : ∀ b, P2 b → P b) : FamT w P (d1 ++ d2) (u1 ++ u2) := by
  obtain ⟨l1, Q1, q1, e1, r1⟩ := h1
  obtain ⟨l2, Q2, q2, e2, r2⟩ := h2
  refine ⟨by simp [l1, l2], fun i b => if i < d1.length then Q1 i b else Q2 (i - d1.length) b, ?_, ?_, ?_⟩
  · intro i b h
    split at h
    · exact a1 b (q1 _ _ h)
    · exact a2 b (q2 _ _ h)
  · intro i j b h h'
    split at h <;> split at h'
    · exact e1 i j b h h'
    · exact (hd b (q1 _ _ h) (q2 _ _ h')).elim
    · exact (hd b (q1 _ _ h') (q2 _ _ h)).elim
    · have := e2 _ _ b h h'
      omega
  · intro i a u ha hu
    by_cases hi : i < d1.length
    · rw [List.getElem?_append_left hi] at ha
      rw [List.getElem?_append_left (by omega)] at hu
      simp only [if_pos hi]
      exact r1 i a u ha hu
    · rw [List.getElem?_append_right (by omega)] at ha
      rw [List.getElem?_append_right (by omega), l1] at hu
      simp only [if_neg hi]
      exact r2 _ a u ha hu
theorem FamT.split (h : FamT w P (d1 ++ d2) us) : ∃ (u1 u2 : List Value) (P1 P2 : Nat → Prop), us = u1 ++ u2 ∧ (∀ b, P1 b → P2 b → False) ∧ (∀ b, P1 b → P b) ∧ (∀ b, P2 b → P b) ∧ FamT w P1 d1 u1 ∧ FamT w P2 d2 u2 := by
  obtain ⟨l, Q, q, e, r⟩ := h
  have hl : us.length = d1.length + d2.length := by simpa using l
  refine ⟨us.take d1.length, us.drop d1.length, fun b => ∃ i, i < d1.length ∧ Q i b, fun b => ∃ i, Q (d1.length + i) b, (List.take_append_drop _ _).symm, ?_, ?_, ?_, ⟨by simp; omega, fun i b => i < d1.length ∧ Q i b, ?_, ?_, ?_⟩, ⟨by simp; omega, fun i b => Q (d1.length + i) b, ?_, ?_, ?_⟩⟩
  · rintro b ⟨i, hi, h1⟩ ⟨j, h2⟩
    have := e _ _ _ h1 h2
    omega
  · rintro b ⟨i, _, h⟩; exact q _ _ h
  · rintro b ⟨i, h⟩; exact q _ _ h
  · rintro i b ⟨hi, h⟩; exact ⟨i, hi, h⟩
  · rintro i j b ⟨_, h⟩ ⟨_, h'⟩; exact e _ _ _ h h'
  · intro i a u ha hu
    have hi : i < d1.length := (List.getElem?_eq_some_iff.1 ha).1
    refine (r i a u (by rw [List.getElem?_append_left hi]; exact ha) ?_).mono fun b h => ⟨hi, h⟩
    rw [List.getElem?_take, if_pos hi] at hu
    exact hu
  · intro i b h; exact ⟨i, h⟩
  · intro i j b h h'
    have := e _ _ _ h h'
    omega
  · intro i a u ha hu
    refine r _ a u (by rw [List.getElem?_append_right (by omega)]; simpa using ha) ?_
    rw [List.getElem?_drop] at hu
    exact hu
theorem FamT.one {d : AD} {v : Value} (h : RelT w P d v) : FamT w P [d] [v] := by
  refine ⟨rfl, fun i b => i = 0 ∧ P b, fun i b h => h.2, fun i j b h h' => by omega, fun i a u ha hu => ?_⟩
  cases i with
  | zero => simp at ha hu; subst ha hu; exact h.mono fun b hb => ⟨rfl, hb⟩
  | succ i => simp at ha
theorem FamT.get {i : Nat} {a : AD} {u : Value} (h : FamT w P ds us) (ha : ds[i]? = some a) (hu : us[i]? = some u) : RelT w P a u := by
  obtain ⟨l, Q, q, e, r⟩ := h
  exact (r i a u ha hu).mono fun b h => q i b h
theorem FamT.relD {Z : Nat → Prop} (h : FamT w P ds us) (hz : ∀ b, P b → Z b) : us.length = ds.length ∧ ∀ (i : Nat) a u, ds[i]? = some a → us[i]? = some u → RelD Z w a u := ⟨h.1, fun i a u ha hu => (h.get ha hu).relD hz⟩
end

/-- What cells known by words alone (cs) hold: data, each with blocks of its own, from lo up to hi. -/
def Fam (lo hi : Nat) (cs ds : List AD) : Prop :=
  cs.length = ds.length ∧ ∀ (Z : Nat → Prop) (w : World) (us : List Value), us.length = cs.length → (∀ (i : Nat) c u, cs[i]? = some c → us[i]? = some u → RelD Z w c u) → FamT w (fun b => lo ≤ b ∧ b < hi ∧ Z b) ds us
def AD.isBl : AD → Bool
  | .pv _ => true
  | .sl [] => true
  | _ => false
theorem relT_bl {Z P : Nat → Prop} {w : World} {d : AD} {u : Value} (hb : d.isBl = true) (h : RelD Z w d u) : RelT w P d u := by
  cases h with
  | pv _ h1 => exact .pv _ _ h1
  | sl xs A cap s us hc hm hl hx hu hr h =>
    cases xs with
    | nil => exact .emp _ _ _ hm
    | cons x r => cases hb
  | x R _ h1 h => cases hb
theorem Fam.blank {lo hi : Nat} {ds : List AD} (h : ds.all AD.isBl = true) : Fam lo hi ds ds := by
  refine ⟨rfl, fun Z w us hl hr => ⟨hl, fun _ _ => False, fun _ _ h => h.elim, fun _ _ _ h => h.elim, fun i a u ha hu => ?_⟩⟩
  exact relT_bl (List.all_eq_true.1 h a (List.mem_of_getElem? ha)) (hr i a u ha hu)
theorem Fam.mono {lo hi lo' hi' : Nat} {cs ds : List AD} (h : Fam lo hi cs ds) (h1 : lo' ≤ lo) (h2 : hi ≤ hi') : Fam lo' hi' cs ds :=
  ⟨h.1, fun Z w us hl hr => (h.2 Z w us hl hr).mono fun b hb => ⟨by omega, by omega, hb.2.2⟩⟩
theorem Fam.app {lo m l2 h2 : Nat} {c1 d1 c2 d2 : List AD} (h : Fam lo m c1 d1) (h' : Fam l2 h2 c2 d2) (e1 : m ≤ l2) (e2 : lo ≤ m) (e3 : m ≤ h2) : Fam lo h2 (c1 ++ c2) (d1 ++ d2) := by
  refine ⟨by simp [h.1, h'.1], fun Z w us hl hr => ?_⟩
  have hlen : us.length = c1.length + c2.length := by simpa using hl
  have t1 := h.2 Z w (us.take c1.length) (by simp; omega) fun i c u hc hu => by
    have hi : i < c1.length := (List.getElem?_eq_some_iff.1 hc).1
    rw [List.getElem?_take, if_pos hi] at hu
    exact hr i c u (by rw [List.getElem?_append_left hi]; exact hc) hu
  have t2 := h'.2 Z w (us.drop c1.length) (by simp; omega) fun i c u hc hu => by
    rw [List.getElem?_drop] at hu
    exact hr _ c u (by rw [List.getElem?_append_right (by omega)]; simpa using hc) hu
  have := t1.append (P := fun b => lo ≤ b ∧ b < h2 ∧ Z b) t2 (fun b p q => by omega) (fun b p => ⟨p.1, by omega, p.2.2⟩) fun b p => ⟨by omega, p.2.1, p.2.2⟩
  rwa [List.take_append_drop] at this
theorem Fam.flat_set {lo m l2 h2 : Nat} {cs ds : List (List AD)} {c d : List AD} (h : Fam lo m cs.flatten ds.flatten) (h' : Fam l2 h2 c d) (e1 : m ≤ l2) (e2 : lo ≤ m) (e3 : m ≤ h2) : Fam lo h2 (cs ++ [c]).flatten (ds ++ [d]).flatten := by
  rw [List.flatten_append, List.flatten_append]
  simpa using h.app h' e1 e2 e3

/-- What a function hands back: memory from lo up to hi. -/
def RelF (lo hi : Nat) (w : World) : AP1 → Value → Prop
  | .one d, v => FamT w (fun b => lo ≤ b ∧ b < hi) [d] [v]
  | .agg ds, v => ∃ us : List Value, v = .agg us.toArray ∧ FamT w (fun b => lo ≤ b ∧ b < hi) ds us
structure FCall (E : AEnv) (f : FuncId) (args : List AP1) (res : AP1) : Prop where
  enter : ∀ (us : Array Value) w, (callFunc f us).run E.P w = .ok (.enter f us) w
  run : ∀ (Z : Nat → Prop) (w : World) (us : List Value), (∀ b, Z b → b < w.heap.size) → GZ E.W Z w → us.length = args.length → (∀ (i : Nat) p u, args[i]? = some p → us[i]? = some u → RelP1 Z w p u) →
    Calls E.P f us.toArray w fun e w' => ∃ v, e = .returned v ∧ Below w.heap.size w w' ∧ RelF w.heap.size w'.heap.size w' res v
theorem RelF.relP {lo hi : Nat} {w : World} {p : AP1} {v : Value} {Z : Nat → Prop} (h : RelF lo hi w p v) (hz : ∀ b, lo ≤ b → b < hi → Z b) : RelP1 Z w p v := by
  cases p with
  | one d => exact (FamT.relD h fun b hb => hz b hb.1 hb.2).2 0 d v rfl rfl
  | agg ds =>
    obtain ⟨us, rfl, h⟩ := h
    have := FamT.relD h fun b hb => hz b hb.1 hb.2
    exact ⟨us, rfl, this.1, this.2⟩
theorem FCall.pcall {E : AEnv} {f : FuncId} {args : List AP1} {res : AP1} (h : FCall E f args res) : PCall E f args (.val res) := by
  refine ⟨h.enter, fun Z w us hz hg hl hr => (h.run Z w us hz hg hl hr).mono ?_⟩
  rintro e w' ⟨v, rfl, hb, hv⟩
  exact ⟨v, fun b => Z b ∨ (w.heap.size ≤ b ∧ b < w'.heap.size), rfl, hb, fun b hb => .inl hb, fun b hb => hb, hv.relP fun b h1 h2 => .inr ⟨h1, h2⟩⟩

/-- How far memory has grown: no less than m. -/
def Rm (n m : Nat) : (Nat → Prop) → World → Value → Prop := fun Z _ _ => m ≤ n ∨ ∃ k, m = k + 1 ∧ Z k
def markO (n m : Nat) : AO := .frame [.one (.d (.x (Rm n m)))] [.bool true]
theorem relO_mark {Z : Nat → Prop} {w : World} {ρ : Nat → Value} {id n m : Nat} (hρ : ρ id = undef) (h : m ≤ n ∨ ∃ k, m = k + 1 ∧ Z k) : RelO Z w ρ id (markO n m) := by
  refine ⟨hρ, rfl, fun i x u hx hu => ?_⟩
  cases i with
  | zero =>
    simp at hx hu
    subst hx hu
    refine .one _ _ (show RelD Z w (.x (Rm n m)) (.bool true) from .x _ _ rfl fun Z' w' hz hb => ?_)
    rcases h with h | ⟨k, e, h⟩
    · exact .inl h
    · exact .inr ⟨k, e, hz k h⟩
  | succ i => simp at hx
theorem mark_get {Z : Nat → Prop} {w : World} {ρ : Nat → Value} {id n m : Nat} (h : RelO Z w ρ id (markO n m)) : m ≤ n ∨ ∃ k, m = k + 1 ∧ Z k := by
  have := h.2.2 0 _ _ rfl rfl
  cases this with
  | one _ _ h =>
    have h : RelD Z w (.x (Rm n m)) (.bool true) := h
    cases h with
    | x R v h1 h => exact h Z w (fun _ h => h) fun _ _ => rfl
theorem WS.reframe {T : World → Prop} {S : Base} {Z : Nat → Prop} {w : World} {ρ : Nat → Value} {ob : List (Nat × AO)} (h : WS T S Z w ρ ob) {id : Nat} {vs : List AV} {us : List Value} (hrel : RelO Z w ρ id (.frame vs us)) : WS T S Z w ρ (oset ob id (.frame vs us)) := by
  have nob : blkOf (ρ id) = none := by rw [hrel.1]; rfl
  refine ⟨h.os, h.tape, h.output, h.size, h.old, h.zlt, fun j o b ho hb => ?_, fun i j oi oj b hi hj hij hbi hbj => ?_, fun j o ho => ?_, ⟨fun j P Q ho => ?_, fun i j P Q P' Q' hi hj => ?_⟩, h.g, h.z0, h.znew⟩
  · rw [oget_oset] at ho
    split at ho
    · rename_i e; subst e; rw [nob] at hb; cases hb
    · exact h.mine j o b ho hb
  · rw [oget_oset] at hi hj
    split at hi
    · rename_i e; subst e; rw [nob] at hbi; cases hbi
    · split at hj
      · rename_i e; subst e; rw [nob] at hbj; cases hbj
      · exact h.sep i j oi oj b hi hj hij hbi hbj
  · rw [oget_oset] at ho
    split at ho
    · rename_i e; subst e; injection ho with ho; subst ho; exact hrel.up
    · exact h.obj j o ho
  · rw [oget_oset] at ho
    split at ho
    · cases ho
    · obtain ⟨h1, h2⟩ := h.many.ok j P Q ho
      refine ⟨fun b hb => ⟨(h1 b hb).1, (h1 b hb).2.1, (h1 b hb).2.2.1, fun i o hi hbi => ?_⟩, h2⟩
      rw [oget_oset] at hi
      split at hi
      · rename_i e; subst e; rw [nob] at hbi; cases hbi
      · exact (h1 b hb).2.2.2 i o hi hbi
  · rw [oget_oset] at hi hj
    split at hi
    · cases hi
    · split at hj
      · cases hj
      · exact h.many.sep i j P Q P' Q' hi hj

/-- Data behind words. -/
def opqL (R : Nat → (Nat → Prop) → World → Value → Prop) : Nat → List AD → List AD
  | _, [] => []
  | i, .pv v :: r => .pv v :: opqL R (i + 1) r
  | i, _ :: r => .x (R i) :: opqL R (i + 1) r
def opqV (R : Nat → (Nat → Prop) → World → Value → Prop) : AP1 → AV
  | .one (.pv v) => .one (.d (.pv v))
  | .one _ => .one (.d (.x (R 0)))
  | .agg ds => .agg ((opqL R 0 ds).map .d)
def resL : AP1 → List AD
  | .one d => [d]
  | .agg ds => ds
theorem opqL_len (R : Nat → (Nat → Prop) → World → Value → Prop) : ∀ (ds : List AD) (i : Nat), (opqL R i ds).length = ds.length
  | [], _ => rfl
  | .pv _ :: r, i => by simp [opqL, opqL_len R r]
  | .sl _ :: r, i => by simp [opqL, opqL_len R r]
  | .x _ :: r, i => by simp [opqL, opqL_len R r]
theorem opqL_get (R : Nat → (Nat → Prop) → World → Value → Prop) : ∀ {ds : List AD} {k i : Nat} {c : AD}, (opqL R k ds)[i]? = some c → ∃ d, ds[i]? = some d ∧ ((∃ v, d = .pv v ∧ c = .pv v) ∨ c = .x (R (k + i)))
  | [], _, _, _, h => by simp [opqL] at h
  | d :: r, k, 0, c, h => by
    refine ⟨d, rfl, ?_⟩
    cases d with
    | pv v => simp [opqL] at h; exact .inl ⟨v, rfl, h.symm⟩
    | sl xs => simp [opqL] at h; exact .inr h.symm
    | x R' => simp [opqL] at h; exact .inr h.symm
  | d :: r, k, i + 1, c, h => by
    have h' : (opqL R (k + 1) r)[i]? = some c := by cases d <;> simpa [opqL] using h
    obtain ⟨d', h1, h2⟩ := opqL_get R h'
    refine ⟨d', by simpa using h1, ?_⟩
    rcases h2 with h2 | h2
    · exact .inl h2
    · exact .inr (by rw [h2]; congr 2; omega)

section
variable {E : AEnv} {S : Base}
/-- A call of such a function: what it hands back is known by words alone, and where its memory lies. -/
theorem ACall.fresh {f : FuncId} {args : List AV} {tm : List AV} {ob : List (Nat × AO)} {K : AV → ASt → Prop} {ps : List AP1} {res : AP1} {m : Nat} (hc : FCall E f ps res) (hps : aRs ob args (· = ps)) (hm : aOb ob 9997 fun o => o = markO S.w0.heap.size m)
    (hk : ∀ R lo hi, m ≤ lo → lo ≤ hi → Fam lo hi (opqL R 0 (resL res)) (resL res) → aSetO 9997 (markO S.w0.heap.size hi) ob fun ob => K (opqV R res) ⟨tm, ob⟩) : ACall E S f args ⟨tm, ob⟩ K := by
  refine ⟨hc.enter, fun Z ρ a w us hs hl hr => ?_⟩
  obtain ⟨ps', h1, h2, rfl⟩ := aRs_get hs.ws hl hr hps
  obtain ⟨o, ho, rfl⟩ := aOb_get hm
  have hmark := mark_get (hs.ws.obj 9997 _ ho)
  have hρ : ρ 9997 = undef := (hs.ws.obj 9997 _ ho).1
  have hmle : m ≤ w.heap.size := by
    rcases hmark with h | ⟨k, e, h⟩
    · exact Nat.le_trans h hs.ws.size
    · have := hs.ws.zlt k h; omega
  refine (hc.run (ZOwn Z ρ ob) w us (ZOwn.lt hs.ws) ?_ h1 h2).mono ?_
  · obtain ⟨w1, g1, g2, g3⟩ := hs.ws.g
    exact ⟨w1, g1, g2, fun b hb => .inl (g3 b hb)⟩
  · rintro e w' ⟨v, rfl, hb, hv⟩
    have hsz := hb.size
    obtain ⟨us', hf, hvu⟩ : ∃ us', FamT w' (fun b => w.heap.size ≤ b ∧ b < w'.heap.size) (resL res) us' ∧ (match res with | .one _ => us' = [v] | .agg _ => v = .agg us'.toArray) := by
      cases res with
      | one d => exact ⟨[v], hv, rfl⟩
      | agg ds => obtain ⟨us', e, h⟩ := hv; exact ⟨us', h, e⟩
    obtain ⟨lF, Q, q, eQ, rQ⟩ := hf
    let R : Nat → (Nat → Prop) → World → Value → Prop := fun i Zx wx u => (∀ b, Q i b → Zx b) ∧ ∃ a, (resL res)[i]? = some a ∧ RelT wx (Q i) a u
    let Z' : Nat → Prop := fun b => Z b ∨ (w.heap.size ≤ b ∧ b < w'.heap.size)
    have hg := hs.grow (Z' := Z') (below_grown hb) (fun b h => .inl h) fun b h => h
    have hcell : ∀ (i : Nat) c u, (opqL R 0 (resL res))[i]? = some c → us'[i]? = some u → RelD Z' w' c u := by
      intro i c u hc hu
      obtain ⟨d, hd, h⟩ := opqL_get R hc
      have ht := rQ i d u hd hu
      rcases h with ⟨x, rfl, rfl⟩ | h
      · cases ht with | pv _ _ h1 => exact .pv _ h1
      · rw [Nat.zero_add] at h
        subst h
        refine .x _ _ ht.one fun Zx wx hzx hbx => ⟨fun b hb => hzx b (.inr (q i b hb)), d, hd, ht.keep fun b hb => hbx b (.inr (q i b hb))⟩
    have hfam : ∀ lo hi : Nat, (∀ b, w.heap.size ≤ b → b < w'.heap.size → lo ≤ b ∧ b < hi) → Fam lo hi (opqL R 0 (resL res)) (resL res) := by
      intro lo hi hlh
      refine ⟨opqL_len R _ _, fun Zx wx ux hl hr => ⟨by rw [hl, opqL_len], fun i b => Q i b ∧ Zx b, fun i b h => ?_, fun i j b h h' => eQ i j b h.1 h'.1, fun i a u ha hu => ?_⟩⟩
      · have := hlh b (q i b h.1).1 (q i b h.1).2
        exact ⟨this.1, this.2, h.2⟩
      · have hi : i < (opqL R 0 (resL res)).length := by rw [opqL_len]; exact (List.getElem?_eq_some_iff.1 ha).1
        obtain ⟨d, hd, h⟩ := opqL_get R (List.getElem?_eq_getElem hi)
        have hrel := hr i _ u (List.getElem?_eq_getElem hi) hu
        rw [ha] at hd
        injection hd with hd
        subst hd
        rcases h with ⟨x, e1, e2⟩ | h
        · rw [e2] at hrel
          rw [e1]
          cases hrel with | pv _ h1 => exact .pv _ _ h1
        · rw [h, Nat.zero_add] at hrel
          cases hrel with
          | x _ _ h1 hR =>
            obtain ⟨hz, a', ha', ht⟩ := hR Zx wx (fun _ h => h) fun _ _ => rfl
            rw [ha] at ha'
            injection ha' with ha'
            subst ha'
            exact ht.mono fun b hb => ⟨hb, hz b hb⟩
    have hval : RelV Z' w' ρ (opqV R res) v := by
      cases res with
      | one d =>
        simp only at hvu
        subst hvu
        cases d with
        | pv x => exact .one _ _ (hcell 0 (.pv x) v rfl rfl)
        | sl xs => exact .one _ _ (hcell 0 (.x (R 0)) v rfl rfl)
        | x R' => exact .one _ _ (hcell 0 (.x (R 0)) v rfl rfl)
      | agg ds =>
        simp only at hvu
        subst hvu
        refine .agg _ us' (by rw [List.length_map, opqL_len]; exact lF) fun i c u hc hu => ?_
        rw [List.getElem?_map] at hc
        obtain ⟨d, hd, rfl⟩ := Option.map_eq_some_iff.1 hc
        exact hcell i d u hd hu
    have fin : ∀ hi : Nat, (hi ≤ S.w0.heap.size ∨ ∃ k, hi = k + 1 ∧ Z' k) → Sim E.W S Z' ρ ⟨tm, oset ob 9997 (markO S.w0.heap.size hi)⟩ a w' := fun hi h =>
      ⟨hg.ws.reframe (relO_mark hρ h), hg.len, hg.tm, hg.df⟩
    by_cases hlt : w.heap.size < w'.heap.size
    · refine ⟨v, _, _, Z', ρ, rfl, fin w'.heap.size (.inr ⟨w'.heap.size - 1, by omega, .inr (by omega)⟩), hval, aSetO_get (K := fun ob => K (opqV R res) ⟨tm, ob⟩) (hk R w.heap.size w'.heap.size hmle hsz (hfam _ _ fun b h1 h2 => ⟨h1, h2⟩))⟩
    · refine ⟨v, _, _, Z', ρ, rfl, fin m ?_, hval, aSetO_get (K := fun ob => K (opqV R res) ⟨tm, ob⟩) (hk R m m (Nat.le_refl _) (Nat.le_refl _) (hfam _ _ fun b h1 h2 => by omega))⟩
      rcases hmark with h | ⟨k, e, h⟩
      · exact .inl h
      · exact .inr ⟨k, e, .inl h⟩

/-- What is handed back is the call's own. -/
def aResF (ob : List (Nat × AO)) (n : Nat) (x : AV) (res : AP1) : Prop :=
  match x with
  | .one .nil => res = .one (.sl [])
  | .one (.own id) => aOb ob id fun o => match o with
    | .row _ s xs => ∃ (lo hi : Nat) (ys : List (List AD)), n ≤ lo ∧ Fam lo hi xs.flatten ys.flatten ∧ ys.length = xs.length ∧ (∀ y ∈ ys, y.length = s) ∧ res = .one (.sl ys)
    | _ => False
  | .one (.d c) => ∃ (lo hi : Nat) (d : AD), n ≤ lo ∧ Fam lo hi [c] [d] ∧ res = .one d
  | .agg cs => aToD cs fun cs' => ∃ (lo hi : Nat) (ds : List AD), n ≤ lo ∧ Fam lo hi cs' ds ∧ res = .agg ds
  | _ => False
def aRetF (E : AEnv) (st : ASt) (n : Nat) (rs : List ResultVar) (res : AP1) : Prop :=
  match rs with
  | [.tmp t] => aTm st.tm t fun v => aResF st.ob n v res
  | [.cell t ty] => aTm st.tm t fun x => aLoad E st ty x fun v => aResF st.ob n v res
  | _ => False
def retF (E : AEnv) (rs : List ResultVar) (n : Nat) (res : AP1) : Exit → ASt → Prop
  | .ret, st => aRetF E st n rs res
  | .normal, st => aRetF E st n rs res
  | _, _ => False
theorem aResF_get {st : ASt} {Z : Nat → Prop} {ρ : Nat → Value} {w : World} (h : WS E.W S Z w ρ st.ob) (hO : ∀ b, ¬ S.O b) {x : AV} {v : Value} {res : AP1} (hv : RelV Z w ρ x v) (hk : aResF st.ob S.w0.heap.size x res) : RelF S.w0.heap.size w.heap.size w res v := by
  have up : ∀ {lo hi : Nat} {ds us}, S.w0.heap.size ≤ lo → FamT w (fun b => lo ≤ b ∧ b < hi ∧ Z b) ds us → FamT w (fun b => S.w0.heap.size ≤ b ∧ b < w.heap.size) ds us := fun hn hf => hf.mono fun b hb => ⟨by omega, h.zlt b hb.2.2⟩
  unfold aResF at hk
  split at hk
  · subst hk
    cases hv with
    | one _ _ hv =>
      have hv : v = .slice none 0 0 := hv
      subst hv
      exact .one (.emp _ _ _ (Nat.zero_le _))
  · rename_i id
    obtain ⟨o, ho, hk⟩ := aOb_get hk
    split at hk
    · rename_i e s xs
      obtain ⟨lo, hi, ys, hn, hf, hyl, hys, rfl⟩ := hk
      obtain ⟨us, h0, hl, hxs, hus, hown, hd⟩ := h.obj id _ ho
      cases hv with
      | one _ _ hv =>
        have hv : v = ρ id := hv.1
        subst hv
        have hlx : xs.flatten.length = xs.length * s := flat_lenG hxs
        obtain ⟨lF, Q, q, eQ, rQ⟩ := hf.2 Z w us.flatten (by rw [flat_lenG hus, hlx, hl]) fun i c u hc hu => by
          have hi : i < xs.length * s := by rw [← hlx]; exact (List.getElem?_eq_some_iff.1 hc).1
          have hs : 0 < s := h0
          have hdm : i = i / s * s + i % s := (Nat.div_add_mod' i s).symm
          have hr : i % s < s := Nat.mod_lt _ hs
          have hk : i / s < xs.length := Nat.div_lt_of_lt_mul (by rw [Nat.mul_comm]; exact hi)
          rw [hdm, flat_eqG hxs (List.getElem?_eq_getElem hk) hr] at hc
          rw [hdm, flat_eqG hus (List.getElem?_eq_getElem (by omega)) hr] at hu
          exact hd _ _ _ _ c u (List.getElem?_eq_getElem hk) (List.getElem?_eq_getElem (by omega)) hc hu
        refine .one (.sl _ ys e s us _ Q h0 (by rw [hl, hyl]) hys hus (by rw [hyl]; exact hown) (fun b hb => ?_) (fun i b hb => ⟨by have := (q i b hb).1; omega, h.zlt b (q i b hb).2.2⟩) eQ rQ)
        have hm := h.mine id _ b ho hb
        exact ⟨⟨hm.2.resolve_right (hO b), h.lt ho hb⟩, fun i hq => hm.1 (q i b hq).2.2⟩
    · exact hk.elim
  · obtain ⟨lo, hi, d, hn, hf, rfl⟩ := hk
    cases hv with
    | one _ _ hv =>
      refine up hn (hf.2 Z w [v] rfl fun i c' u hc hu => ?_)
      cases i with
      | zero => simp at hc hu; subst hc hu; exact hv
      | succ i => simp at hc
  · rename_i cs
    obtain ⟨cs', hk, hl', hr'⟩ := aToD_get hk
    obtain ⟨lo, hi, ds, hn, hf, rfl⟩ := hk
    cases hv with
    | agg _ us hl hr =>
      refine ⟨us, rfl, up hn (hf.2 Z w us (by rw [hl, hl']) fun i c u hc hu => ?_)⟩
      have hi : i < cs.length := by rw [← hl']; exact (List.getElem?_eq_some_iff.1 hc).1
      exact hr' i c cs[i] u hc (List.getElem?_eq_getElem hi) (hr i _ u (List.getElem?_eq_getElem hi) hu)
  · exact hk.elim
theorem aRetF_get {st : ASt} (he : E.Ok) {Z : Nat → Prop} {ρ : Nat → Value} {a : Act} {w : World} (h : Sim E.W S Z ρ st a w) (hO : ∀ b, ¬ S.O b) {fn : Func} {res : AP1} (hk : aRetF E st S.w0.heap.size fn.results.toList res) :
    ∃ v, (results fn a.tmps).run E.P w = .ok v w ∧ RelF S.w0.heap.size w.heap.size w res v := by
  have hres : ∀ vs : List Value, (fn.results.toList.mapM (resSem a.tmps)).run E.P w = .ok vs w → (results fn a.tmps).run E.P w = .ok (if h : vs.toArray.size = 1 then vs.toArray[0] else .tuple vs.toArray) w := by
    intro vs hvs
    have e : results fn a.tmps = (do let vs ← fn.results.mapM (resSem a.tmps); pure (if h : vs.size = 1 then vs[0] else .tuple vs)) := rfl
    rw [e, Sem.run_bind, Array.mapM_eq_mapM_toList, Sem.run_map, hvs]
    rfl
  unfold aRetF at hk
  split at hk
  · rename_i t hr
    obtain ⟨x, hx, hk⟩ := aTm_get hk
    have hlt : t < a.tmps.size := by rw [h.len]; exact (List.getElem?_eq_some_iff.1 hx).1
    have hp := aResF_get h.ws hO (h.tm t x _ hx (Array.getElem?_eq_getElem hlt)) hk
    have h1 : (resSem a.tmps (.tmp t)).run E.P w = .ok a.tmps[t] w := by simp [resSem, hlt]
    have := hres [a.tmps[t]] (by rw [hr, List.mapM_cons, Sem.run_bind, h1]; rfl)
    exact ⟨a.tmps[t], this, hp⟩
  · rename_i t ty hr
    obtain ⟨x, hx, hk⟩ := aTm_get hk
    have hlt : t < a.tmps.size := by rw [h.len]; exact (List.getElem?_eq_some_iff.1 hx).1
    obtain ⟨b, off, v, y, e, hrl, hy, hk⟩ := load_get he h (h.tm t x _ hx (Array.getElem?_eq_getElem hlt)) hk
    have hp := aResF_get h.ws hO hy hk
    have h1 : (resSem a.tmps (.cell t ty)).run E.P w = .ok v w := by simp [resSem, hlt, e, asAddr, hrl]
    have := hres [v] (by rw [hr, List.mapM_cons, Sem.run_bind, h1]; rfl)
    exact ⟨v, this, hp⟩
  · exact hk.elim
/-- Such a contract, from the function's code. -/
theorem fcall_of (he : E.Ok) {f : FuncId} {fn : Func} {c : Code} {n : Nat} {rs : List ResultVar} {args : List AP1} {res : AP1} (hf : E.P.funcs[f]? = some fn) (hb : fn.body = some c)
    (enter : ∀ (us : Array Value) w, (callFunc f us).run E.P w = .ok (.enter f us) w) (hn : fn.ntmps = n) (hrs : fn.results.toList = rs)
    (h : ∀ S : Base, aInit args n fun tm => AWP E S c (retF E rs S.w0.heap.size res) ⟨tm, [(9997, markO S.w0.heap.size S.w0.heap.size)]⟩) : FCall E f args res := by
  refine ⟨enter, fun Z w us hz hg hl hr => ?_⟩
  subst hn hrs
  obtain ⟨hle, hk⟩ := aInit_get (h ⟨w, fun _ => False, Z⟩)
  have hs : Sim E.W ⟨w, fun _ => False, Z⟩ Z (fun _ => undef) ⟨args.map AP1.v ++ List.replicate (fn.ntmps - args.length) (.one .und), [(9997, markO w.heap.size w.heap.size)]⟩ { tmps := us.toArray ++ Array.replicate (fn.ntmps - us.toArray.size) undef, defers := [] } w := by
    have hw0 : WS E.W ⟨w, fun _ => False, Z⟩ Z w (fun _ => undef) [] := ⟨rfl, rfl, rfl, Nat.le_refl _, fun _ _ _ => rfl, hz, fun id o b ho _ => (by cases ho), fun i j oi oj b hi _ _ _ _ => (by cases hi), fun id o ho => (by cases ho), Manys.nil, hg, fun b hb => hb, fun b hb => .inl hb⟩
    refine ⟨hw0.reframe (id := 9997) (relO_mark rfl (.inl (Nat.le_refl _))), by simp [hl], fun i x v hx hv => ?_, rfl⟩
    simp only at hx hv
    have hv' : (us ++ List.replicate (fn.ntmps - us.length) undef)[i]? = some v := by
      have := hv
      rw [← Array.getElem?_toList] at this
      simpa using this
    by_cases hi : i < us.length
    · rw [List.getElem?_append_left (by simpa [hl] using hi), List.getElem?_map] at hx
      obtain ⟨p, hp, rfl⟩ := Option.map_eq_some_iff.1 hx
      rw [List.getElem?_append_left hi] at hv'
      exact (hr i p v hp hv').v
    · rw [List.getElem?_append_right (by simp; omega)] at hx
      rw [List.getElem?_append_right (by omega)] at hv'
      have e1 := List.eq_of_mem_replicate (List.mem_of_getElem? hx)
      have e2 := List.eq_of_mem_replicate (List.mem_of_getElem? hv')
      subst e1 e2
      exact .one _ _ (show RelC Z w (fun _ => undef) .und undef from rfl)
  refine calls_of_wp hf hb (wp_mono (hk.run _ w ⟨Z, _, hs⟩) fun e a' w' h' => ?_)
  obtain ⟨st', ⟨Z', ρ', hs'⟩, hk'⟩ := h'
  have fin : aRetF E st' w.heap.size fn.results.toList res → a'.defers = [] ∧ ∃ v, (results fn a'.tmps).run E.P w' = .ok v w' ∧ ∃ v0, Ending.returned v = .returned v0 ∧ Below w.heap.size w w' ∧ RelF w.heap.size w'.heap.size w' res v0 := by
    intro hr
    obtain ⟨v, h1, h2⟩ := aRetF_get he hs' (fun b h => h) hr
    exact ⟨hs'.df, v, h1, v, rfl, ⟨hs'.ws.os, hs'.ws.tape, hs'.ws.output, hs'.ws.size, fun b hb => hs'.ws.old b hb (fun h => h)⟩, h2⟩
  cases e with
  | normal => exact fin hk'
  | ret => exact fin hk'
  | _ => exact hk'.elim
end
end Go.Proofs.YtmgcnmdbhahhlaaGreat
namespace Go.Proofs.YtmgcnmdbhahhlaaGreat
open Go.RowKit

/-- Only blocks of P are turned; none is made. -/
structure TurnP (P : Nat → Prop) (w w' : World) : Prop where
  os : w'.os = w.os
  tape : w'.tape = w.tape
  output : w'.output = w.output
  size : w'.heap.size = w.heap.size
  block : ∀ b, ¬ P b → w'.heap[b]? = w.heap[b]?
section
variable {P P' : Nat → Prop} {w w1 w' : World}
theorem TurnP.refl (P : Nat → Prop) (w : World) : TurnP P w w := ⟨rfl, rfl, rfl, rfl, fun _ _ => rfl⟩
theorem TurnP.trans (h : TurnP P w w1) (h' : TurnP P w1 w') : TurnP P w w' := ⟨h'.os.trans h.os, h'.tape.trans h.tape, h'.output.trans h.output, h'.size.trans h.size, fun b hb => (h'.block b hb).trans (h.block b hb)⟩
theorem TurnP.mono (h : TurnP P w w') (hp : ∀ b, P b → P' b) : TurnP P' w w' := ⟨h.os, h.tape, h.output, h.size, fun b hb => h.block b fun hq => hb (hp b hq)⟩
theorem TurnP.setCell {a : Addr} (ha : P a.block) (u : Value) : TurnP P w (w.setCell a u) := ⟨rfl, rfl, rfl, by simp [World.setCell], fun b hb => Below.heap_setCell _ _ _ _ (fun e => hb (e ▸ ha))⟩
theorem TurnP.below {B : Nat} (h : TurnP P w w') (hp : ∀ b, P b → B ≤ b) : Below B w w' := ⟨h.os, h.tape, h.output, by rw [h.size]; exact Nat.le_refl _, fun k hk => h.block k fun hq => by have := hp k hq; omega⟩
end
theorem FamT.focus {w : World} {P : Nat → Prop} {d1 d2 d3 : List AD} {u1 u2 u3 : List Value} (h : FamT w P (d1 ++ d2 ++ d3) (u1 ++ u2 ++ u3)) (e1 : u1.length = d1.length) (e2 : u2.length = d2.length) :
    ∃ Q, (∀ b, Q b → P b) ∧ FamT w Q d2 u2 ∧ ∀ w' d2', TurnP Q w w' → FamT w' Q d2' u2 → FamT w' P (d1 ++ d2' ++ d3) (u1 ++ u2 ++ u3) := by
  obtain ⟨v12, v3, P12, P3, ev, dj, a12, a3, f12, f3⟩ := h.split
  obtain ⟨e12, e3⟩ := List.append_inj ev (by rw [f12.1]; simp [e1, e2])
  subst e12 e3
  obtain ⟨v1, v2, P1, P2, ev, dk, b1, b2, f1, f2⟩ := f12.split
  obtain ⟨e5, e6⟩ := List.append_inj ev (by rw [f1.1]; exact e1)
  subst e5 e6
  refine ⟨P2, fun b hb => a12 b (b2 b hb), f2, fun w' d2' ht hf => ?_⟩
  refine FamT.append (P1 := P12) (P2 := P3) (FamT.append (P1 := P1) (P2 := P2) (f1.keep fun b hb => ht.block b fun hq => dk b hb hq) hf dk b1 b2) (f3.keep fun b hb => ht.block b fun hq => dj b (b2 b hq) hb) dj a12 a3
theorem FamT.set {w : World} {P : Nat → Prop} {x : List AD} {us : List Value} (h : FamT w P x us) {c : Nat} {u : Value} (h1 : u.oneCell' = true) : FamT w P (x.set c (.pv u)) (us.set c u) := by
  obtain ⟨l, Q, q, e, r⟩ := h
  refine ⟨by simp [l], Q, q, e, fun i a y ha hy => ?_⟩
  rw [List.getElem?_set] at ha hy
  by_cases hi : c = i
  · subst hi
    simp only [if_true] at ha hy
    split at ha
    · split at hy
      · injection ha with ha; injection hy with hy; subst ha hy; exact .pv _ _ h1
      · cases hy
    · cases ha
  · rw [if_neg hi] at ha hy
    exact r i a y ha hy

/-- The cells of one element while it is written. -/
structure El (w0 : World) (b o s : Nat) (Q : Nat → Prop) (w : World) (x : List AD) (us : List Value) : Prop where
  len : us.length = s
  fam : FamT w Q x us
  cell : ∀ (c : Nat) u, us[c]? = some u → w.cell? ⟨b, o + c, none⟩ = some u
  oth : ∀ o', (o' < o ∨ o + s ≤ o') → w.cell? ⟨b, o', none⟩ = w0.cell? ⟨b, o', none⟩
  row : ∃ cur cur' t, w0.heap[b]? = some (.cells cur t (0, 0)) ∧ w.heap[b]? = some (.cells cur' t (0, 0)) ∧ cur'.size = cur.size
  turn : TurnP (fun g => g = b ∨ Q g) w0 w
  nb : ¬ Q b
section
variable {w0 w : World} {b o s : Nat} {Q : Nat → Prop} {x : List AD} {us : List Value}
theorem El.frozen (h : El w0 b o s Q w x us) (o' : Nat) : w.frozen? ⟨b, o', none⟩ = false := by
  obtain ⟨cur, cur', t, _, h2, _⟩ := h.row
  simp [World.frozen?, h2]
theorem El.set (h : El w0 b o s Q w x us) {c : Nat} (hc : c < s) (u : Value) (h1 : u.oneCell' = true) : El w0 b o s Q (w.setCell ⟨b, o + c, none⟩ u) (x.set c (.pv u)) (us.set c u) := by
  have hlt : c < us.length := by rw [h.len]; exact hc
  obtain ⟨cur, cur', t, r1, r2, r3⟩ := h.row
  refine ⟨by simp [h.len], ?_, fun c' y hy => ?_, fun o' ho => ?_, ⟨cur, cur'.setIfInBounds (o + c) u, t, r1, by simp [World.setCell, Array.getElem?_modify, r2], by simp [r3]⟩, h.turn.trans (TurnP.setCell (.inl rfl) u), h.nb⟩
  · exact FamT.set (h.fam.keep fun g hg => Below.heap_setCell w ⟨b, o + c, none⟩ u g (fun e => h.nb (by have e2 : g = b := e; subst e2; exact hg))) h1
  · rw [List.getElem?_set] at hy
    by_cases hcc : c = c'
    · subst hcc
      rw [if_pos rfl, if_pos hlt] at hy
      injection hy with hy
      subst hy
      exact World.cell?_setCell_same _ _ _ (h.cell c _ (List.getElem?_eq_getElem hlt))
    · rw [if_neg hcc] at hy
      exact (World.cell?_setCell_other _ _ _ _ (by intro e; injection e; omega)).trans (h.cell c' y hy)
  · exact (World.cell?_setCell_other _ _ _ _ (by intro e; injection e; omega)).trans (h.oth o' ho)
theorem El.sub (h : El w0 b o s Q w x us) {c : Nat} {a : AD} {u : Value} (ha : x[c]? = some a) (hu : us[c]? = some u) :
    ∃ Qc, (∀ g, Qc g → Q g) ∧ RelT w Qc a u ∧ ∀ w' a', TurnP Qc w w' → RelT w' Qc a' u → El w0 b o s Q w' (x.set c a') us := by
  obtain ⟨l, R, q, e, r⟩ := h.fam
  refine ⟨R c, q c, r c a u ha hu, fun w' a' ht hr => ?_⟩
  have hb : w'.heap[b]? = w.heap[b]? := ht.block b fun hq => h.nb (q c b hq)
  have hcell : ∀ o', w'.cell? ⟨b, o', none⟩ = w.cell? ⟨b, o', none⟩ := fun o' => World.cell?_of_block (a := ⟨b, o', none⟩) hb
  obtain ⟨cur, cur', t, r1, r2, r3⟩ := h.row
  refine ⟨h.len, ⟨by simp [l], R, q, e, fun i a2 y h1 h2 => ?_⟩, fun c' y hy => (hcell _).trans (h.cell c' y hy), fun o' ho => (hcell _).trans (h.oth o' ho), ⟨cur, cur', t, r1, hb.trans r2, r3⟩, h.turn.trans (ht.mono fun g hg => .inr (q c g hg)), h.nb⟩
  rw [List.getElem?_set] at h1
  by_cases hi : c = i
  · subst hi
    rw [hu] at h2
    injection h2 with h2
    subst h2
    rw [if_pos rfl] at h1
    split at h1
    · injection h1 with h1; subst h1; exact hr
    · cases h1
  · rw [if_neg hi] at h1
    exact (r i a2 y h1 h2).keep fun g hg => ht.block g fun hq => hi (e _ _ g hq hg)
end
/-- THE LENS. -/
theorem RelT.lens {w : World} {P : Nat → Prop} {xs : List (List AD)} {v : Value} (h : RelT w P (.sl xs) v) {j : Nat} {x : List AD} (hj : xs[j]? = some x) :
    ∃ (b off cap : Nat) (us : List Value) (Q : Nat → Prop), v = .slice (some ⟨b, off, none⟩) xs.length cap ∧ P b ∧ (∀ g, Q g → P g) ∧ El w b (off + j * x.length) x.length Q w x us ∧
      ∀ w' x' us', El w b (off + j * x.length) x.length Q w' x' us' → RelT w' P (.sl (xs.set j x')) v := by
  have hjl : j < xs.length := (List.getElem?_eq_some_iff.1 hj).1
  cases h with
  | emp P A cap hm => simp at hj
  | sl P xs e s us v R hs hl hx hu hown hb hQ hd hh =>
    have hxs : x.length = s := hx x (List.mem_of_getElem? hj)
    have hju : j < us.length := by omega
    have hus : us[j].length = s := hu _ (List.getElem_mem hju)
    rcases hown.2 with ⟨_, hn⟩ | ⟨g, cap, cur, rfl, _, hg, h1, h2, h3, h4⟩
    · omega
    have hfl : us.flatten.length = us.length * s := flat_lenG hu
    have hcell : ∀ (i : Nat) y, us.flatten[i]? = some y → w.cell? ⟨g, i, none⟩ = some y := fun i y hy => own_cell hown rfl hy
    rw [hxs]
    refine ⟨g, 0, cap, us[j], fun b => ∃ r, r < s ∧ R (j * s + r) b, rfl, (hb g rfl).1, fun b ⟨r, _, hr⟩ => hQ _ b hr, ⟨hus, ⟨by rw [hus, hxs], fun r b => r < s ∧ R (j * s + r) b, fun r b hr => ⟨r, hr⟩, fun i i' b p q => by have := hd _ _ b p.2 q.2; omega, fun r a y ha hy => ?_⟩, fun c y hy => ?_, fun _ _ => rfl, ⟨cur, cur, e, hg, hg, rfl⟩, TurnP.refl _ _, fun ⟨r, _, hr⟩ => (hb g rfl).2 _ hr⟩, fun w' x' us' hel => ?_⟩
    · have hr : r < s := by rw [← hxs]; exact (List.getElem?_eq_some_iff.1 ha).1
      exact (hh (j * s + r) a y (by rw [flat_eqG hx hj hr]; exact ha) (by rw [flat_eqG hu (List.getElem?_eq_getElem hju) hr]; exact hy)).mono fun b hb => ⟨hr, hb⟩
    · have hr : c < s := by rw [← hus]; exact (List.getElem?_eq_some_iff.1 hy).1
      rw [Nat.zero_add]
      exact hcell _ _ (by rw [flat_eqG hu (List.getElem?_eq_getElem hju) hr]; exact hy)
    · obtain ⟨c1, c2, t, r1, r2, r3⟩ := hel.row
      rw [hg] at r1
      injection r1 with r1
      injection r1 with e1 e2 e3
      subst e1 e2
      obtain ⟨lF, R', q', d', f'⟩ := hel.fam
      have hx' : x'.length = s := by rw [← lF, hel.len]
      have hx2 : ∀ y ∈ xs.set j x', y.length = s := fun y hy => by rcases List.mem_or_eq_of_mem_set hy with hy | rfl; exact hx y hy; exact hx'
      have hu2 : ∀ y ∈ us.set j us', y.length = s := fun y hy => by rcases List.mem_or_eq_of_mem_set hy with hy | rfl; exact hu y hy; exact hel.len
      have hl2 : (us.set j us').flatten.length = us.length * s := by rw [flat_lenG hu2, List.length_set]
      have hc2 : ∀ i : Nat, i < us.length * s → w'.cell? ⟨g, i, none⟩ = (us.set j us').flatten[i]? := by
        intro i hi
        have hdm : i = i / s * s + i % s := (Nat.div_add_mod' i s).symm
        have hr : i % s < s := Nat.mod_lt _ hs
        have hk : i / s < us.length := Nat.div_lt_of_lt_mul (by rw [Nat.mul_comm]; exact hi)
        by_cases hij : i / s = j
        · have e1 : (us.set j us')[i / s]? = some us' := by rw [hij]; simp [hju]
          obtain ⟨y, hy⟩ : ∃ y, us'[i % s]? = some y := ⟨_, List.getElem?_eq_getElem (by rw [hel.len]; exact hr)⟩
          have h5 := hel.cell (i % s) y hy
          rw [Nat.zero_add, ← hij, ← hdm] at h5
          rw [h5]
          conv => rhs; rw [hdm]
          rw [flat_eqG hu2 e1 hr, hy]
        · have e1 : (us.set j us')[i / s]? = some us[i / s] := by rw [List.getElem?_set_ne (fun e => hij e.symm)]; exact List.getElem?_eq_getElem hk
          have hne : i < 0 + j * s ∨ 0 + j * s + s ≤ i := by
            rcases Nat.lt_or_gt_of_ne hij with h | h
            · left
              have : (i / s + 1) * s ≤ j * s := Nat.mul_le_mul_right s h
              rw [Nat.add_mul] at this
              omega
            · right
              have : (j + 1) * s ≤ i / s * s := Nat.mul_le_mul_right s h
              rw [Nat.add_mul] at this
              omega
          rw [hel.oth i hne]
          have h5 := hcell i us.flatten[i] (List.getElem?_eq_getElem (by rw [hfl]; exact hi))
          rw [h5, ← List.getElem?_eq_getElem (by rw [hfl]; exact hi)]
          conv => lhs; rw [hdm]
          conv => rhs; rw [hdm]
          rw [flat_eqG hu2 e1 hr, flat_eqG hu (List.getElem?_eq_getElem hk) hr]
      have hown' : w'.ownsRow 0 e s (.slice (some ⟨g, 0, none⟩) xs.length cap) (xs.set j x').length (us.set j us').flatten := by
        refine ⟨by rw [hl2, hl, List.length_set], .inr ⟨g, cap, c2, by rw [List.length_set], Nat.zero_le _, r2, by rw [List.length_set]; exact h1, h2, by rw [r3]; exact h3, ?_⟩⟩
        apply List.ext_getElem?
        intro i
        rw [List.getElem?_take, List.length_set]
        by_cases hi : i < xs.length * s
        · rw [if_pos hi, ← hc2 i (by rw [hl]; exact hi), cell_of_row w' g i c2 e (0, 0) r2, Array.getElem?_toList]
        · rw [if_neg hi, List.getElem?_eq_none (by rw [hl2, hl]; omega)]
      have := RelT.sl (w := w') P (xs.set j x') e s (us.set j us') (.slice (some ⟨g, 0, none⟩) xs.length cap) (fun i b => if j * s ≤ i ∧ i < j * s + s then R' (i - j * s) b else R i b) hs (by simp [hl]) hx2 hu2 hown' ?_ ?_ ?_ ?_
      · exact this
      · intro b hbb
        refine ⟨(hb b hbb).1, fun i hi => ?_⟩
        split at hi
        · obtain ⟨r, _, hr⟩ := q' _ b hi
          exact (hb b hbb).2 _ hr
        · exact (hb b hbb).2 _ hi
      · intro i b hi
        split at hi
        · obtain ⟨r, _, hr⟩ := q' _ b hi
          exact hQ _ b hr
        · exact hQ _ b hi
      · intro i i' b hi hi'
        split at hi <;> split at hi'
        · have := d' _ _ b hi hi'; omega
        · obtain ⟨r, hr0, hr⟩ := q' _ b hi
          have := hd _ _ b hr hi'; omega
        · obtain ⟨r, hr0, hr⟩ := q' _ b hi'
          have := hd _ _ b hr hi; omega
        · exact hd _ _ b hi hi'
      · intro i a y ha hy
        have hi : i < xs.length * s := by
          have := (List.getElem?_eq_some_iff.1 ha).1
          rwa [flat_lenG hx2, List.length_set] at this
        have hdm : i = i / s * s + i % s := (Nat.div_add_mod' i s).symm
        have hr : i % s < s := Nat.mod_lt _ hs
        have hk : i / s < xs.length := Nat.div_lt_of_lt_mul (by rw [Nat.mul_comm]; exact hi)
        by_cases hij : i / s = j
        · have e1 : (us.set j us')[i / s]? = some us' := by rw [hij]; simp [hju]
          have e2 : (xs.set j x')[i / s]? = some x' := by rw [hij]; simp [hjl]
          rw [hdm, flat_eqG hx2 e2 hr] at ha
          rw [hdm, flat_eqG hu2 e1 hr] at hy
          have hin : j * s ≤ i ∧ i < j * s + s := by rw [← hij]; omega
          simp only [if_pos hin]
          rw [show i - j * s = i % s by rw [← hij]; omega]
          exact f' _ a y ha hy
        · have hne : ¬ (j * s ≤ i ∧ i < j * s + s) := by
            rcases Nat.lt_or_gt_of_ne hij with h | h
            · have : (i / s + 1) * s ≤ j * s := Nat.mul_le_mul_right s h
              rw [Nat.add_mul] at this
              omega
            · have : (j + 1) * s ≤ i / s * s := Nat.mul_le_mul_right s h
              rw [Nat.add_mul] at this
              omega
          have e1 : (us.set j us')[i / s]? = some us[i / s] := by rw [List.getElem?_set_ne (fun e => hij e.symm)]; exact List.getElem?_eq_getElem (by omega)
          have e2 : (xs.set j x')[i / s]? = some xs[i / s] := by rw [List.getElem?_set_ne (fun e => hij e.symm)]; exact List.getElem?_eq_getElem hk
          rw [hdm, flat_eqG hx2 e2 hr, ← flat_eqG hx (List.getElem?_eq_getElem hk) hr, ← hdm] at ha
          rw [hdm, flat_eqG hu2 e1 hr, ← flat_eqG hu (List.getElem?_eq_getElem (by omega)) hr, ← hdm] at hy
          simp only [if_neg hne]
          refine (hh i a y ha hy).keep fun b hRb => hel.turn.block b ?_
          rintro (rfl | ⟨r, hr0, hr'⟩)
          · exact (hb _ rfl).2 _ hRb
          · have := hd _ _ b hRb hr'
            omega
theorem RelT.form {w : World} {P : Nat → Prop} {xs : List (List AD)} {v : Value} (h : RelT w P (.sl xs) v) : ∃ A cap, v = .slice A xs.length cap ∧ xs.length ≤ cap ∧ cap ≤ maxLen := by
  cases h with
  | emp P A cap hm => exact ⟨A, cap, rfl, Nat.zero_le _, hm⟩
  | sl P xs e s us v Q hs hl hx hu hown hb hQ hd h =>
    rcases hown.2 with ⟨hv, hn⟩ | ⟨g, cap, cur, hv, _, hg, h1, h2, h3, h4⟩
    · exact ⟨none, 0, by rw [hv, hn], by omega, Nat.zero_le _⟩
    · exact ⟨_, cap, hv, h1, h2⟩
def OutM (k : Int) (P : Nat → Prop) (w : World) (G : World → Prop) (e : Ending) (w' : World) : Prop := e = .returned (.int .i64 k) ∧ TurnP P w w' ∧ G w'
theorem wf64 {n : Int} (h1 : -9223372036854775808 ≤ n) (h2 : n ≤ 9223372036854775807) : (Lit.int .i64 n).wf = true := by
  have e : IntKind.i64.wrap n = n := by rw [IntKind.wrap_i64]; omega
  rw [← e]; exact wf_wrap _ _
def mI (k : Int) (_ : Int) : Int := k
def mB (k : Int) (_ : Bool) : Bool := k % 3 == 0
def cI {α : Type} (_ : α) : Int := 1
section
variable {α : Type} {mk : Int → α → α} {cnt : α → Int}
def mkL (mk : Int → α → α) (cnt : α → Int) : Int → List α → List α
  | _, [] => []
  | k, a :: r => mk k a :: mkL mk cnt (k + cnt a) r
def cntL (cnt : α → Int) : List α → Int
  | [] => 0
  | a :: r => cnt a + cntL cnt r
theorem mkL_length : ∀ (l : List α) (k : Int), (mkL mk cnt k l).length = l.length
  | [], _ => rfl
  | a :: r, k => by simp [mkL, mkL_length r]
theorem cntL_snoc : ∀ (l : List α) (a : α), cntL cnt (l ++ [a]) = cntL cnt l + cnt a
  | [], a => by simp [cntL]
  | b :: r, a => by simp only [List.cons_append, cntL, cntL_snoc r]; omega
theorem take_snocM {l : List α} {k : Nat} (hk : k < l.length) : l.take (k + 1) = l.take k ++ [l[k]] := by rw [List.take_add_one, List.getElem?_eq_getElem hk]; rfl
theorem cntL_take {l : List α} {k : Nat} (hk : k < l.length) : cntL cnt (l.take (k + 1)) = cntL cnt (l.take k) + cnt l[k] := by
  rw [take_snocM hk, cntL_snoc]
theorem cntL_append : ∀ (l l' : List α), cntL cnt (l ++ l') = cntL cnt l + cntL cnt l'
  | [], l' => by simp [cntL]
  | b :: r, l' => by simp only [List.cons_append, cntL, cntL_append r]; omega
theorem cntL_nonneg (h : ∀ a, 0 ≤ cnt a) : ∀ (l : List α), 0 ≤ cntL cnt l
  | [] => by simp [cntL]
  | b :: r => by have := cntL_nonneg h r; have := h b; simp only [cntL]; omega
theorem cntL_take_le (h : ∀ a, 0 ≤ cnt a) (l : List α) (k : Nat) : cntL cnt (l.take k) ≤ cntL cnt l := by
  have e : cntL cnt l = cntL cnt (l.take k) + cntL cnt (l.drop k) := by rw [← cntL_append, List.take_append_drop]
  have := cntL_nonneg h (l.drop k)
  omega
theorem cntI : ∀ (l : List α), cntL cI l = l.length
  | [] => rfl
  | a :: r => by simp only [cntL, cntI r, cI, List.length_cons]; omega
theorem cntL_le {n : Nat} {m : Nat} (h : ∀ a : α, 0 ≤ cnt a) : ∀ {l : List α}, l.length ≤ n → (∀ a ∈ l, cnt a ≤ m) → cntL cnt l ≤ n * m
  | [], _, _ => by simp [cntL]; exact Int.mul_nonneg (by omega) (by omega)
  | a :: r, hl, hm => by
    cases n with
    | zero => simp at hl
    | succ n =>
      have h1 := cntL_le (n := n) (m := m) h (l := r) (by simpa using hl) fun b hb => hm b (by simp [hb])
      have h2 := hm a (by simp)
      simp only [cntL]
      rw [show ((n + 1 : Nat) : Int) = (n : Int) + 1 by omega, Int.add_mul]
      omega
theorem mkL_snoc : ∀ (l : List α) (a : α) (k : Int), mkL mk cnt k (l ++ [a]) = mkL mk cnt k l ++ [mk (k + cntL cnt l) a]
  | [], a, k => by simp [mkL, cntL]
  | b :: r, a, k => by simp only [List.cons_append, mkL, mkL_snoc r, cntL]; rw [Int.add_assoc]
theorem mkL_get : ∀ (l : List α) (k0 : Int) {k : Nat} (hk : k < l.length), (mkL mk cnt k0 l)[k]'(by rw [mkL_length]; exact hk) = mk (k0 + cntL cnt (l.take k)) l[k]
  | [], _, k, hk => absurd hk (Nat.not_lt_zero _)
  | a :: r, k0, 0, _ => by simp [mkL, cntL]
  | a :: r, k0, k + 1, hk => by
    have := mkL_get r (k0 + cnt a) (k := k) (by simpa using hk)
    simp only [mkL, List.getElem_cons_succ, List.take_succ_cons, cntL]
    rw [this, Int.add_assoc]
def mkP (mk : Int → α → α) (cnt : α → Int) (k0 : Int) (j : Nat) (l : List α) : List α := mkL mk cnt k0 (l.take j) ++ l.drop j
theorem mkP_length (k0 : Int) (j : Nat) (l : List α) : (mkP mk cnt k0 j l).length = l.length := by
  unfold mkP
  rw [List.length_append, mkL_length, List.length_take, List.length_drop]
  omega
theorem mkP_zero (k0 : Int) (l : List α) : mkP mk cnt k0 0 l = l := by simp [mkP, mkL]
theorem mkP_all (k0 : Int) (l : List α) : mkP mk cnt k0 l.length l = mkL mk cnt k0 l := by simp [mkP]
theorem mkP_at {β : Type} (f : α → β) (k0 : Int) {j : Nat} {l : List α} (hj : j < l.length) : ((mkP mk cnt k0 j l).map f)[j]? = some (f l[j]) := by
  rw [List.getElem?_map]
  simp only [mkP]
  rw [List.getElem?_append_right (by rw [mkL_length, List.length_take]; omega), mkL_length, List.length_take, List.getElem?_drop]
  rw [show j + (j - min j l.length) = j by omega, List.getElem?_eq_getElem hj]
  rfl
theorem mkP_setE {β : Type} (f : α → β) (k0 : Int) {j : Nat} {l : List α} (hj : j < l.length) : ((mkP mk cnt k0 j l).map f).set j (f (mk (k0 + cntL cnt (l.take j)) l[j])) = (mkP mk cnt k0 (j + 1) l).map f := by
  have hl : (mkL mk cnt k0 (l.take j)).length = j := by rw [mkL_length, List.length_take]; omega
  rw [← List.map_set]
  congr 1
  unfold mkP
  rw [List.set_append_right _ _ (by omega), hl, Nat.sub_self, take_snocM hj, mkL_snoc, List.append_assoc]
  congr 1
  rw [List.drop_eq_getElem_cons hj]
  rfl
end
end Go.Proofs.YtmgcnmdbhahhlaaGreat
namespace Go.Proofs.YtmgcnmdbhahhlaaGreat
open Go.RowKit

/-- Only blocks of P are turned, of those that were there. -/
structure TurnA (P : Nat → Prop) (w w' : World) : Prop where
  os : w'.os = w.os
  tape : w'.tape = w.tape
  output : w'.output = w.output
  size : w.heap.size ≤ w'.heap.size
  block : ∀ b, b < w.heap.size → ¬ P b → w'.heap[b]? = w.heap[b]?
theorem TurnP.a {P : Nat → Prop} {w w' : World} (h : TurnP P w w') : TurnA P w w' := ⟨h.os, h.tape, h.output, by rw [h.size]; exact Nat.le_refl _, fun b _ hb => h.block b hb⟩
theorem TurnA.mono {P P' : Nat → Prop} {w w' : World} (h : TurnA P w w') (hp : ∀ b, P b → P' b) : TurnA P' w w' := ⟨h.os, h.tape, h.output, h.size, fun b hl hb => h.block b hl fun hq => hb (hp b hq)⟩
theorem FamT.focusA {w : World} {P : Nat → Prop} {d1 d2 d3 : List AD} {u1 u2 u3 : List Value} (h : FamT w P (d1 ++ d2 ++ d3) (u1 ++ u2 ++ u3)) (e1 : u1.length = d1.length) (e2 : u2.length = d2.length) (hlt : ∀ b, P b → b < w.heap.size) :
    ∃ Q, (∀ b, Q b → P b) ∧ FamT w Q d2 u2 ∧ ∀ w' d2', TurnA Q w w' → FamT w' Q d2' u2 → FamT w' P (d1 ++ d2' ++ d3) (u1 ++ u2 ++ u3) := by
  obtain ⟨v12, v3, P12, P3, ev, dj, a12, a3, f12, f3⟩ := h.split
  obtain ⟨e12, e3⟩ := List.append_inj ev (by rw [f12.1]; simp [e1, e2])
  subst e12 e3
  obtain ⟨v1, v2, P1, P2, ev, dk, b1, b2, f1, f2⟩ := f12.split
  obtain ⟨e5, e6⟩ := List.append_inj ev (by rw [f1.1]; exact e1)
  subst e5 e6
  refine ⟨P2, fun b hb => a12 b (b2 b hb), f2, fun w' d2' ht hf => ?_⟩
  exact FamT.append (P1 := P12) (P2 := P3) (FamT.append (P1 := P1) (P2 := P2) (f1.keep fun b hb => ht.block b (hlt b (a12 b (b1 b hb))) fun hq => dk b hb hq) hf dk b1 b2) (f3.keep fun b hb => ht.block b (hlt b (a3 b hb)) fun hq => dj b (b2 b hq) hb) dj a12 a3

/-! Cells as they are, one by one. -/
def rawU (u : Nat → Value) : Nat → List AD → List Value
  | _, [] => []
  | i, .pv v :: r => v :: rawU u (i + 1) r
  | i, _ :: r => u i :: rawU u (i + 1) r
def rawC (u : Nat → Value) : Nat → List AD → List AD
  | _, [] => []
  | i, .pv v :: r => .pv v :: rawC u (i + 1) r
  | i, _ :: r => .pv (u i) :: rawC u (i + 1) r
def rawV (u : Nat → Value) (i : Nat) : AP1 → AV
  | .one (.pv v) => .one (.d (.pv v))
  | .one _ => .one (.d (.pv (u i)))
  | .agg ds => .agg ((rawC u i ds).map .d)
def uOf (us : List Value) : Nat → Value := fun i => us.getD i undef
def valIs (p : AP1) (us : List Value) (v : Value) : Prop :=
  match p with
  | .one _ => us = [v]
  | .agg _ => v = .agg us.toArray
theorem rawU_len (u : Nat → Value) : ∀ (ds : List AD) (i : Nat), (rawU u i ds).length = ds.length
  | [], _ => rfl
  | .pv _ :: r, i => by simp [rawU, rawU_len u r]
  | .sl _ :: r, i => by simp [rawU, rawU_len u r]
  | .x _ :: r, i => by simp [rawU, rawU_len u r]
theorem rawU_of {w : World} {u : Nat → Value} : ∀ {ds : List AD} {us : List Value} {i : Nat}, us.length = ds.length → (∀ (j : Nat) a x, ds[j]? = some a → us[j]? = some x → ∃ P, RelT w P a x) → (∀ (j : Nat) x, us[j]? = some x → u (i + j) = x) → rawU u i ds = us
  | [], [], _, _, _, _ => rfl
  | d :: r, x :: us, i, hl, hr, hu => by
    have h0 : u i = x := hu 0 x rfl
    have ih := rawU_of (ds := r) (us := us) (i := i + 1) (by simpa using hl) (fun j a y h1 h2 => hr (j + 1) a y (by simpa using h1) (by simpa using h2)) fun j y hy => by rw [← hu (j + 1) y (by simpa using hy)]; congr 1; omega
    obtain ⟨P, ht⟩ := hr 0 d x rfl rfl
    cases d with
    | pv v => cases ht with | pv _ _ => simp only [rawU, ih]
    | sl xs => simp only [rawU, ih, h0]
    | x R => simp only [rawU, ih, h0]
  | [], _ :: _, _, hl, _, _ => by simp at hl
  | _ :: _, [], _, hl, _, _ => by simp at hl
theorem raw_cells {Z : Nat → Prop} {w : World} (u : Nat → Value) : ∀ {ds : List AD} {i : Nat} {us : List Value}, us.length = ds.length → (∀ (j : Nat) c x, (rawC u i ds)[j]? = some c → us[j]? = some x → RelD Z w c x) → us = rawU u i ds
  | [], _, [], _, _ => rfl
  | d :: r, i, x :: us, hl, hr => by
    have ih : us = rawU u (i + 1) r := raw_cells u (by simpa using hl) fun j c y h1 h2 => hr (j + 1) c y (by cases d <;> simpa [rawC] using h1) (by simpa using h2)
    cases d with
    | pv v =>
      have := hr 0 (.pv v) x rfl rfl
      cases this with | pv _ _ => rw [rawU, ← ih]
    | sl xs =>
      have := hr 0 (.pv (u i)) x rfl rfl
      cases this with | pv _ _ => show _ = u i :: rawU u (i + 1) r; rw [← ih]
    | x R =>
      have := hr 0 (.pv (u i)) x rfl rfl
      cases this with | pv _ _ => show _ = u i :: rawU u (i + 1) r; rw [← ih]
  | [], _, _ :: _, hl, _ => by simp at hl
  | _ :: _, _, [], hl, _ => by simp at hl
theorem rawC_len (u : Nat → Value) : ∀ (ds : List AD) (i : Nat), (rawC u i ds).length = ds.length
  | [], _ => rfl
  | .pv _ :: r, i => by simp [rawC, rawC_len u r]
  | .sl _ :: r, i => by simp [rawC, rawC_len u r]
  | .x _ :: r, i => by simp [rawC, rawC_len u r]
theorem raw_val {Z : Nat → Prop} {w : World} {ρ : Nat → Value} {u : Nat → Value} {i : Nat} {p : AP1} {v : Value} (h : RelV Z w ρ (rawV u i p) v) : valIs p (rawU u i (resL p)) v := by
  cases p with
  | one d =>
    cases d with
    | pv x => cases h with | one _ _ h => cases (show RelD Z w (.pv x) v from h) with | pv _ _ => rfl
    | sl xs => cases h with | one _ _ h => cases (show RelD Z w (.pv (u i)) v from h) with | pv _ _ => rfl
    | x R => cases h with | one _ _ h => cases (show RelD Z w (.pv (u i)) v from h) with | pv _ _ => rfl
  | agg ds =>
    cases h with
    | agg _ us hl h =>
      have : us = rawU u i ds := raw_cells (Z := Z) (w := w) u (by simpa [rawC_len] using hl) fun j c x h1 h2 => h j (.d c) x (by rw [List.getElem?_map, h1]; rfl) h2
      show Value.agg us.toArray = .agg (rawU u i ds).toArray
      rw [this]
theorem raw_rel {Z : Nat → Prop} {w w' : World} {P : Nat → Prop} {ρ : Nat → Value} {u : Nat → Value} {i : Nat} {p : AP1} {v : Value} (hf : FamT w' P (resL p) (rawU u i (resL p))) (hv : valIs p (rawU u i (resL p)) v) : RelV Z w ρ (rawV u i p) v := by
  have one : ∀ (j : Nat) a x, (resL p)[j]? = some a → (rawU u i (resL p))[j]? = some x → x.oneCell' = true := fun j a x h1 h2 => (hf.get h1 h2).one
  cases p with
  | one d =>
    have h1 : v.oneCell' = true := one 0 d v rfl (by rw [show rawU u i (resL (.one d)) = [v] from hv]; rfl)
    cases d with
    | pv x =>
      have e : [x] = [v] := hv
      injection e with e
      subst e
      exact .one _ _ (show RelD Z w (.pv x) x from .pv _ h1)
    | sl xs =>
      have e : [u i] = [v] := hv
      injection e with e
      subst e
      exact .one _ _ (show RelD Z w (.pv (u i)) (u i) from .pv _ h1)
    | x R =>
      have e : [u i] = [v] := hv
      injection e with e
      subst e
      exact .one _ _ (show RelD Z w (.pv (u i)) (u i) from .pv _ h1)
  | agg ds =>
    have hv : v = .agg (rawU u i ds).toArray := hv
    subst hv
    refine .agg _ _ (by simp [rawU_len, rawC_len]) fun j c x hc hx => ?_
    rw [List.getElem?_map] at hc
    obtain ⟨d, hd, rfl⟩ := Option.map_eq_some_iff.1 hc
    have hjl : j < ds.length := by rw [← rawC_len u ds i]; exact (List.getElem?_eq_some_iff.1 hd).1
    have h1 := one j ds[j] x (List.getElem?_eq_getElem hjl) hx
    have same : ∀ (ds : List AD) (i j : Nat) d x, (rawC u i ds)[j]? = some d → (rawU u i ds)[j]? = some x → d = .pv x := by
      intro ds
      induction ds with
      | nil => intro i j d x h; simp [rawC] at h
      | cons a r ih =>
        intro i j d x h1 h2
        cases j with
        | zero => cases a <;> (simp [rawC] at h1; simp [rawU] at h2; subst h1 h2; rfl)
        | succ j => exact ih (i + 1) j d x (by cases a <;> simpa [rawC] using h1) (by cases a <;> simpa [rawU] using h2)
    rw [same ds i j d x hd hx]
    exact .pv _ h1
def FamQ (P : Nat → Prop) (ds : List AD) (us : List Value) : World → Prop := fun w => FamT w P ds us
/-- An object of many blocks that reads as ds in the cells us. -/
def treeO (P : Nat → Prop) (ds : List AD) (us : List Value) : AO := .many P (FamQ P ds us)

section
variable {T : World → Prop} {S : Base} {Z : Nat → Prop} {w w' : World} {ρ : Nat → Value} {ob : List (Nat × AO)}
/-- An object of many blocks is made. -/
theorem WS.renewT (h : WS T S Z w ρ ob) (id : Nat) {P : Nat → Prop} {Q : World → Prop} (hP : ∀ b, P b → b < w.heap.size ∧ ¬ Z b ∧ (S.w0.heap.size ≤ b ∨ S.O b) ∧ ∀ j o, oget ob j = some o → blkOf (ρ j) ≠ some b)
    (hd : ∀ j P' Q', oget ob j = some (.many P' Q') → ∀ b, P b → P' b → False) (hq : ∀ w' : World, (∀ b, P b → w'.heap[b]? = w.heap[b]?) → Q w') : WS T S Z w (fun i => if i = id then undef else ρ i) (oset (okill id ob) id (.many P Q)) := by
  have old : ∀ j o, j ≠ id → oget (oset (okill id ob) id (.many P Q)) j = some o → ∃ o0, oget ob j = some o0 ∧ o = killO id o0 := by
    intro j o hj ho
    rw [oget_oset, if_neg (fun e => hj e.symm), oget_okill] at ho
    obtain ⟨o0, h0, h1⟩ := Option.map_eq_some_iff.1 ho
    exact ⟨o0, h0, h1.symm⟩
  have blk : ∀ j b, blkOf (if j = id then undef else ρ j) = some b → j ≠ id ∧ blkOf (ρ j) = some b := by
    intro j b hb
    by_cases hj : j = id
    · rw [if_pos hj] at hb; cases hb
    · rw [if_neg hj] at hb; exact ⟨hj, hb⟩
  have omany : ∀ j P' Q', oget (oset (okill id ob) id (.many P Q)) j = some (.many P' Q') → (j = id ∧ P' = P ∧ Q' = Q) ∨ (j ≠ id ∧ oget ob j = some (.many P' Q')) := by
    intro j P' Q' ho
    by_cases hj : j = id
    · subst hj
      rw [oget_oset, if_pos rfl] at ho
      injection ho with ho
      injection ho with e1 e2
      exact .inl ⟨rfl, e1.symm, e2.symm⟩
    · obtain ⟨o0, h0, e⟩ := old j _ hj ho
      exact .inr ⟨hj, by rw [h0, killO_many e.symm]⟩
  refine ⟨h.os, h.tape, h.output, h.size, h.old, h.zlt, fun j o b ho hb => ?_, fun i j oi oj b hi hj hij hbi hbj => ?_, fun j o ho => ?_, ⟨fun j P' Q' ho => ?_, fun i j P1 Q1 P2 Q2 hi hj hij b hb1 hb2 => ?_⟩, h.g, h.z0, h.znew⟩
  · obtain ⟨hj, hb⟩ := blk j b hb
    obtain ⟨o0, h0, _⟩ := old j o hj ho
    exact h.mine j o0 b h0 hb
  · obtain ⟨hi0, hbi⟩ := blk i b hbi
    obtain ⟨hj0, hbj⟩ := blk j b hbj
    obtain ⟨o0, h0, _⟩ := old i oi hi0 hi
    obtain ⟨o1, h1, _⟩ := old j oj hj0 hj
    exact h.sep i j o0 o1 b h0 h1 hij hbi hbj
  · by_cases hj : j = id
    · subst hj
      rw [oget_oset, if_pos rfl] at ho
      injection ho with ho
      subst ho
      show (if j = j then undef else ρ j) = undef
      rw [if_pos rfl]
    · obtain ⟨o0, h0, rfl⟩ := old j o hj ho
      exact killO_rel' hj (h.obj j o0 h0)
  · have apart : ∀ b, (∀ i o, oget ob i = some o → blkOf (ρ i) ≠ some b) → ∀ i o, oget (oset (okill id ob) id (.many P Q)) i = some o → blkOf (if i = id then undef else ρ i) ≠ some b := by
      intro b hb i o hi hbi
      obtain ⟨hi0, hbi⟩ := blk i b hbi
      obtain ⟨o0, h0, _⟩ := old i o hi0 hi
      exact hb i o0 h0 hbi
    rcases omany j P' Q' ho with ⟨_, rfl, rfl⟩ | ⟨_, ho⟩
    · exact ⟨fun b hb => ⟨(hP b hb).1, (hP b hb).2.1, (hP b hb).2.2.1, apart b (hP b hb).2.2.2⟩, hq⟩
    · obtain ⟨h1, h2⟩ := h.many.ok j P' Q' ho
      exact ⟨fun b hb => ⟨(h1 b hb).1, (h1 b hb).2.1, (h1 b hb).2.2.1, apart b (h1 b hb).2.2.2⟩, h2⟩
  · rcases omany i P1 Q1 hi with ⟨e1, e2, e3⟩ | ⟨hi0, hi1⟩ <;> rcases omany j P2 Q2 hj with ⟨f1, f2, f3⟩ | ⟨hj0, hj1⟩
    · exact hij (e1.trans f1.symm)
    · exact hd j P2 Q2 hj1 b (e2 ▸ hb1) hb2
    · exact hd i P1 Q1 hi1 b (f2 ▸ hb2) hb1
    · exact h.many.sep i j P1 Q1 P2 Q2 hi1 hj1 hij b hb1 hb2
/-- An object of many blocks is turned. -/
theorem WS.turn (h : WS T S Z w ρ ob) {id : Nat} {P : Nat → Prop} {Q Q' : World → Prop} (ho : oget ob id = some (.many P Q)) (ht : TurnA P w w') (hq : ∀ w2 : World, (∀ b, P b → w2.heap[b]? = w'.heap[b]?) → Q' w2) : WS T S Z w' ρ (oset ob id (.many P Q')) := by
  obtain ⟨hP, _⟩ := h.many.ok id P Q ho
  have hρ : ρ id = undef := h.obj id _ ho
  have hz : ∀ b, Z b → w'.heap[b]? = w.heap[b]? := fun b hb => ht.block b (h.zlt b hb) fun hp => (hP b hp).2.1 hb
  have hob : ∀ j o b, oget ob j = some o → blkOf (ρ j) = some b → w'.heap[b]? = w.heap[b]? := fun j o b hj hb => ht.block b (h.lt hj hb) fun hp => (hP b hp).2.2.2 j o hj hb
  have old : ∀ j o1, oget (oset ob id (.many P Q')) j = some o1 → ∃ o0, oget ob j = some o0 ∧ (j ≠ id → o1 = o0) := by
    intro j o1 h1
    rw [oget_oset] at h1
    split at h1
    · rename_i e; subst e; exact ⟨_, ho, fun h => absurd rfl h⟩
    · exact ⟨o1, h1, fun _ => rfl⟩
  have omany : ∀ j P1 Q1, oget (oset ob id (.many P Q')) j = some (.many P1 Q1) → (j = id ∧ P1 = P ∧ Q1 = Q') ∨ (j ≠ id ∧ oget ob j = some (.many P1 Q1)) := by
    intro j P1 Q1 h1
    by_cases hj : j = id
    · subst hj
      rw [oget_oset, if_pos rfl] at h1
      injection h1 with h1
      injection h1 with e1 e2
      exact .inl ⟨rfl, e1.symm, e2.symm⟩
    · obtain ⟨o0, h0, e⟩ := old j _ h1
      exact .inr ⟨hj, by rw [h0, ← e hj]⟩
  refine ⟨ht.os.trans h.os, ht.tape.trans h.tape, ht.output.trans h.output, Nat.le_trans h.size ht.size, fun b hb hO => ?_, fun b hb => Nat.lt_of_lt_of_le (h.zlt b hb) ht.size, fun j o b hj hb => ?_, fun i j oi oj b hi hj hij hbi hbj => ?_, fun j o hj => ?_, ⟨fun j P1 Q1 hj => ?_, fun i j P1 Q1 P2 Q2 hi hj hij b hb1 hb2 => ?_⟩, ?_, h.z0, h.znew⟩
  · refine (ht.block b (Nat.lt_of_lt_of_le hb h.size) fun hp => ?_).trans (h.old b hb hO)
    rcases (hP b hp).2.2.1 with h3 | h3
    · omega
    · exact hO h3
  · obtain ⟨o0, h0, _⟩ := old j o hj
    exact h.mine j o0 b h0 hb
  · obtain ⟨o0, h0, _⟩ := old i oi hi
    obtain ⟨o1, h1, _⟩ := old j oj hj
    exact h.sep i j o0 o1 b h0 h1 hij hbi hbj
  · by_cases hjd : j = id
    · subst hjd
      rw [oget_oset, if_pos rfl] at hj
      injection hj with hj
      subst hj
      exact hρ
    · obtain ⟨o0, h0, e⟩ := old j o hj
      rw [e hjd]
      exact (h.obj j o0 h0).mono (fun _ h => h) hz fun b hb => hob j o0 b h0 hb
  · have apart : ∀ b, (∀ i o, oget ob i = some o → blkOf (ρ i) ≠ some b) → ∀ i o, oget (oset ob id (.many P Q')) i = some o → blkOf (ρ i) ≠ some b := by
      intro b hb i o hi hbi
      obtain ⟨o0, h0, _⟩ := old i o hi
      exact hb i o0 h0 hbi
    rcases omany j P1 Q1 hj with ⟨_, rfl, rfl⟩ | ⟨hjd, hj⟩
    · exact ⟨fun b hb => ⟨Nat.lt_of_lt_of_le (hP b hb).1 ht.size, (hP b hb).2.1, (hP b hb).2.2.1, apart b (hP b hb).2.2.2⟩, hq⟩
    · obtain ⟨h1, h2⟩ := h.many.ok j P1 Q1 hj
      refine ⟨fun b hb => ⟨Nat.lt_of_lt_of_le (h1 b hb).1 ht.size, (h1 b hb).2.1, (h1 b hb).2.2.1, apart b (h1 b hb).2.2.2⟩, fun w2 hw => h2 w2 fun b hb => (hw b hb).trans (ht.block b (h1 b hb).1 fun hp => h.many.sep j id P1 Q1 P Q hj ho hjd b hb hp)⟩
  · rcases omany i P1 Q1 hi with ⟨e1, e2, e3⟩ | ⟨hi0, hi1⟩ <;> rcases omany j P2 Q2 hj with ⟨f1, f2, f3⟩ | ⟨hj0, hj1⟩
    · exact hij (e1.trans f1.symm)
    · exact h.many.sep id j P Q P2 Q2 ho hj1 (fun e => hj0 e.symm) b (e2 ▸ hb1) hb2
    · exact h.many.sep i id P1 Q1 P Q hi1 ho hi0 b hb1 (f2 ▸ hb2)
    · exact h.many.sep i j P1 Q1 P2 Q2 hi1 hj1 hij b hb1 hb2
  · obtain ⟨w1, g1, g2, g3⟩ := h.g
    exact ⟨w1, g1, ⟨ht.os.trans g2.os, ht.tape.trans g2.tape, ht.output.trans g2.output, Nat.le_trans g2.size ht.size, fun k hk => (hz k (g3 k hk)).trans (g2.block k hk)⟩, g3⟩
end

section
variable {E : AEnv} {S : Base}
theorem AExt.rs {T : World → Prop} {ob : List (Nat × AO)} {args : List AV} {ps : List AP1} (h : aRs ob args (· = ps)) : AExt T ob args ps := by
  refine ⟨fun S Z ρ w us hs hl hr => ?_⟩
  obtain ⟨ps', h1, h2, rfl⟩ := aRs_get (E := ⟨default, .leaf, T⟩) (st := ⟨[], ob⟩) hs hl hr h
  exact ⟨ZOwn Z ρ ob, fun b hb => .inl hb, ZOwn.lt hs, h1, h2⟩
theorem RelP1.up {Z Z' : Nat → Prop} {w : World} (hz : ∀ b, Z b → Z' b) {p : AP1} {v : Value} (h : RelP1 Z w p v) : RelP1 Z' w p v := by
  cases p with
  | one d => exact RelD.mono hz (fun _ _ => rfl) h
  | agg ds => obtain ⟨us, e, hl, hr⟩ := h; exact ⟨us, e, hl, fun i d u h5 h6 => (hr i d u h5 h6).mono hz fun _ _ => rfl⟩
theorem val_relP {P : Nat → Prop} {w : World} {p : AP1} {us : List Value} {v : Value} (h : FamT w P (resL p) us) (hv : valIs p us v) : RelP1 P w p v := by
  cases p with
  | one d => have hv : us = [v] := hv; subst hv; exact (h.relD fun _ h => h).2 0 d v rfl rfl
  | agg ds => exact ⟨us, hv, (h.relD fun _ h => h).1, (h.relD fun _ h => h).2⟩
/-- A tree as the first argument. -/
theorem AExt.tree {T : World → Prop} {ob : List (Nat × AO)} {x : AV} {rest : List AV} {p0 : AP1} {psr : List AP1} (id : Nat) {P : Nat → Prop} {u : Nat → Value} (hx : x = rawV u 0 p0) (hob : aOb ob id fun o => o = treeO P (resL p0) (rawU u 0 (resL p0))) (hrest : aRs ob rest (· = psr)) : AExt T ob (x :: rest) (p0 :: psr) := by
  refine ⟨fun S Z ρ w us hs hl hr => ?_⟩
  subst hx
  obtain ⟨o, ho, rfl⟩ := aOb_get hob
  obtain ⟨hP, hQ⟩ := hs.many.ok id P _ ho
  have hF : FamT w P (resL p0) (rawU u 0 (resL p0)) := hQ w fun _ _ => rfl
  cases us with
  | nil => simp at hl
  | cons v us =>
    obtain ⟨ps', h1, h2, rfl⟩ := aRs_get (E := ⟨default, .leaf, T⟩) (st := ⟨[], ob⟩) hs (xs := rest) (us := us) (by simpa using hl) (fun i y z h1 h2 => hr (i + 1) y z (by simpa using h1) (by simpa using h2)) hrest
    have hv := raw_val (hr 0 _ v rfl rfl)
    refine ⟨fun b => ZOwn Z ρ ob b ∨ P b, fun b hb => .inl (.inl hb), fun b hb => ?_, by simp [h1], fun i p y h3 h4 => ?_⟩
    · rcases hb with hb | hb
      · exact ZOwn.lt hs b hb
      · exact (hP b hb).1
    · cases i with
      | zero => simp at h3 h4; subst h3 h4; exact (val_relP hF hv).up fun b hb => .inr hb
      | succ i => exact (h2 i p y (by simpa using h3) (by simpa using h4)).up fun b hb => .inl hb
theorem ACall.ext {f : FuncId} {args : List AV} {st : ASt} {K : AV → ASt → Prop} {ps : List AP1} {res : AP} (hc : PCall E f ps res) (hx : AExt E.W st.ob args ps) (hsc : res.scalar = true) (hk : K res.v st) : ACall E S f args st K := by
  refine ⟨hc.enter, fun Z ρ a w us hs hl hr => ?_⟩
  obtain ⟨Z2, z1, z2, h1, h2⟩ := hx.h S Z ρ w us hs.ws hl hr
  refine (hc.run Z2 w us z2 ?_ h1 h2).mono ?_
  · obtain ⟨w1, g1, g2, g3⟩ := hs.ws.g
    exact ⟨w1, g1, g2, fun b hb => z1 b (g3 b hb)⟩
  · rintro e w' ⟨v, Z', rfl, hb, hz, hz2, hv⟩
    exact ⟨v, res.v, st, Z, ρ, rfl, hs.grow (below_grown hb) (fun _ h => h) (fun _ h => .inl h), (hv.any hsc).v, hk⟩
/-- A call whose result is a tree. -/
theorem ACall.tree {f : FuncId} {args : List AV} {st : ASt} {K : AV → ASt → Prop} {ps : List AP1} {res : AP1} (id : Nat) (hc : FCall E f ps res) (hx : AExt E.W st.ob args ps) (hk : ∀ (P : Nat → Prop) (u : Nat → Value), aNew st id (treeO P (resL res) (rawU u 0 (resL res))) (K (rawV u 0 res))) : ACall E S f args st K := by
  refine ⟨hc.enter, fun Z ρ a w us hs hl hr => ?_⟩
  obtain ⟨Z2, z1, z2, h1, h2⟩ := hx.h S Z ρ w us hs.ws hl hr
  refine (hc.run Z2 w us z2 ?_ h1 h2).mono ?_
  · obtain ⟨w1, g1, g2, g3⟩ := hs.ws.g
    exact ⟨w1, g1, g2, fun b hb => z1 b (g3 b hb)⟩
  · rintro e w' ⟨v, rfl, hb, hv⟩
    obtain ⟨us', hf, hvu⟩ : ∃ us', FamT w' (fun b => w.heap.size ≤ b ∧ b < w'.heap.size) (resL res) us' ∧ valIs res us' v := by
      cases res with
      | one d => exact ⟨[v], hv, rfl⟩
      | agg ds => obtain ⟨us', e, h⟩ := hv; exact ⟨us', h, e⟩
    have hU : rawU (uOf us') 0 (resL res) = us' := rawU_of (w := w') hf.1 (fun j a x h1 h2 => ⟨_, hf.get h1 h2⟩) fun j x hj => by simp [uOf, List.getD_eq_getElem?_getD, hj]
    have hg := hs.grow (Z' := Z) (below_grown hb) (fun _ h => h) (fun _ h => .inl h)
    have hsz := hs.ws.size
    have hws := hg.ws.renewT id (P := fun b => w.heap.size ≤ b ∧ b < w'.heap.size) (Q := FamQ (fun b => w.heap.size ≤ b ∧ b < w'.heap.size) (resL res) us') (fun b hb => ⟨hb.2, fun hz => by have := hs.ws.zlt b hz; omega, .inl (by omega), fun j o ho hbj => by have := hs.ws.lt ho hbj; omega⟩)
      (fun j P' Q' ho b hb hb' => by have := ((hs.ws.many.ok j P' Q' ho).1 b hb').1; omega) fun w2 hw => hf.keep hw
    have h3 := aNew_get (hk (fun b => w.heap.size ≤ b ∧ b < w'.heap.size) (uOf us'))
    rw [hU] at h3
    refine ⟨v, _, _, Z, _, rfl, ⟨hws, by simp [killSt, hg.len], fun i x y hx hy => ?_, hg.df⟩, raw_rel (w' := w') (by rw [hU]; exact hf) (by rw [hU]; exact hvu), h3⟩
    simp only [killSt, List.getElem?_map] at hx
    obtain ⟨x0, h0, rfl⟩ := Option.map_eq_some_iff.1 hx
    exact killV_rel (hg.tm i x0 y h0 hy)

/-- A call that writes into what its first argument leads to, and hands back a number. -/
structure WCall (E : AEnv) (f : FuncId) (p : AP1) (k : Int) (p' : AP1) (k' : Int) : Prop where
  enter : ∀ (us : Array Value) w, (callFunc f us).run E.P w = .ok (.enter f us) w
  run : ∀ (P Z : Nat → Prop) (w : World) (us : List Value) (v : Value), (∀ b, Z b → b < w.heap.size) → GZ E.W Z w → (∀ b, P b → b < w.heap.size ∧ ¬ Z b) → FamT w P (resL p) us → valIs p us v →
    Calls E.P f #[v, .int .i64 k] w fun e w' => e = .returned (.int .i64 k') ∧ TurnA P w w' ∧ FamT w' P (resL p') us
theorem WCall.of {f : FuncId} {d d' : AD} {k k' : Int} (enter : ∀ (us : Array Value) w, (callFunc f us).run E.P w = .ok (.enter f us) w)
    (h : ∀ P w v, RelT w P d v → Calls E.P f #[v, .int .i64 k] w (OutM k' P w fun w' => RelT w' P d' v)) : WCall E f (.one d) k (.one d') k' := by
  refine ⟨enter, fun P Z w us v hz hg hP hf hv => ?_⟩
  have hv : us = [v] := hv
  subst hv
  refine (h P w v (hf.get (i := 0) rfl rfl)).mono ?_
  rintro e w' ⟨rfl, ht, hr⟩
  exact ⟨rfl, ht.a, .one hr⟩
theorem ACall.turn {f : FuncId} {x : AV} {tm : List AV} {ob : List (Nat × AO)} {K : AV → ASt → Prop} {p p' : AP1} {k k' : Int} (id : Nat) (j : Nat) (d1 d3 : List AD) (u1 u3 : List Value) {P : Nat → Prop} {u : Nat → Value} {D : List AD} {U : List Value} (hc : WCall E f p k p' k') (hx : x = rawV u j p)
    (hob : aOb ob id fun o => o = treeO P D U) (hD : D = d1 ++ resL p ++ d3) (hU : U = u1 ++ rawU u j (resL p) ++ u3) (hl : u1.length = d1.length)
    (hk : aSetO id (treeO P (d1 ++ resL p' ++ d3) (u1 ++ rawU u j (resL p) ++ u3)) ob fun ob => K (vI .i64 k') ⟨tm, ob⟩) : ACall E S f [x, vI .i64 k] ⟨tm, ob⟩ K := by
  refine ⟨hc.enter, fun Z ρ a w us hs hln hr => ?_⟩
  subst hx hD hU
  obtain ⟨o, ho, rfl⟩ := aOb_get hob
  obtain ⟨hP, hQ⟩ := hs.ws.many.ok id P _ ho
  have hF : FamT w P (d1 ++ resL p ++ d3) (u1 ++ rawU u j (resL p) ++ u3) := hQ w fun _ _ => rfl
  obtain ⟨Q, hQP, hfq, hcl⟩ := hF.focusA hl (rawU_len _ _ _) fun b hb => (hP b hb).1
  match us, hln with
  | [v, y], _ =>
    have hv := raw_val (hr 0 _ v rfl rfl)
    have hy : y = .int .i64 k := by
      have := hr 1 _ y rfl rfl
      cases this with | one _ _ h => cases (show RelD Z w (.pv (.int .i64 k)) y from h) with | pv _ _ => rfl
    subst hy
    refine (hc.run Q Z w _ v hs.ws.zlt hs.ws.g (fun b hb => ⟨(hP b (hQP b hb)).1, (hP b (hQP b hb)).2.1⟩) hfq hv).mono ?_
    rintro e w' ⟨rfl, ht, hf'⟩
    have hF' := hcl w' (resL p') ht hf'
    have hws := hs.ws.turn (Q' := FamQ P (d1 ++ resL p' ++ d3) (u1 ++ rawU u j (resL p) ++ u3)) ho (ht.mono hQP) fun w2 hw => hF'.keep hw
    refine ⟨_, _, ⟨tm, oset ob id (treeO P (d1 ++ resL p' ++ d3) (u1 ++ rawU u j (resL p) ++ u3))⟩, Z, ρ, rfl, ⟨hws, hs.len, fun i z q hz hq => (hs.tm i z q hz hq).mono (fun _ h => h) fun b hb => ht.block b (hs.ws.zlt b hb) fun hq => (hP b (hQP b hq)).2.1 hb, hs.df⟩, .one (.d (.pv (.int .i64 k'))) _ (show RelD Z w' (.pv (.int .i64 k')) (.int .i64 k') from .pv _ rfl), aSetO_get hk⟩

def retW (E : AEnv) (rs : List ResultVar) (k' : Int) (P : Nat → Prop) (D : List AD) (U : List Value) : Exit → ASt → Prop
  | .ret, st => aRet E st rs (· = .val (pI k')) ∧ aOb st.ob 9001 fun o => o = treeO P D U
  | .normal, st => aRet E st rs (· = .val (pI k')) ∧ aOb st.ob 9001 fun o => o = treeO P D U
  | _, _ => False
theorem wcall_of (he : E.Ok) {f : FuncId} {fn : Func} {c : Code} {n : Nat} {rs : List ResultVar} {p p' : AP1} {k k' : Int} (hf : E.P.funcs[f]? = some fn) (hb : fn.body = some c)
    (enter : ∀ (us : Array Value) w, (callFunc f us).run E.P w = .ok (.enter f us) w) (hn : fn.ntmps = n + 2) (hrs : fn.results.toList = rs)
    (h : ∀ (S : Base) (P : Nat → Prop) (u : Nat → Value), AWP E S c (retW E rs k' P (resL p') (rawU u 0 (resL p))) ⟨rawV u 0 p :: vI .i64 k :: List.replicate n (.one .und), [(9001, treeO P (resL p) (rawU u 0 (resL p)))]⟩) : WCall E f p k p' k' := by
  refine ⟨enter, fun P Z w us v hz hg hP hF hv => ?_⟩
  subst hrs
  have hU : rawU (uOf us) 0 (resL p) = us := rawU_of (w := w) hF.1 (fun j a x h1 h2 => ⟨_, hF.get h1 h2⟩) fun j x hj => by simp [uOf, List.getD_eq_getElem?_getD, hj]
  have hk := h ⟨w, P, Z⟩ P (uOf us)
  have hw0 : WS E.W ⟨w, P, Z⟩ Z w (fun _ => undef) [(9001, treeO P (resL p) us)] := by
    have only : ∀ i o, oget [(9001, treeO P (resL p) us)] i = some o → i = 9001 ∧ o = treeO P (resL p) us := by
      intro i o ho
      simp only [oget] at ho
      split at ho
      · rename_i e; injection ho with ho; exact ⟨e.symm, ho.symm⟩
      · cases ho
    refine ⟨rfl, rfl, rfl, Nat.le_refl _, fun _ _ _ => rfl, hz, fun id o b ho hb => (by cases hb), fun i j oi oj b hi hj hij hbi _ => (by cases hbi), fun id o ho => ?_, ⟨fun id P' Q' ho => ?_, fun i j P1 Q1 P2 Q2 hi hj hij => ?_⟩, hg, fun b hb => hb, fun b hb => .inl hb⟩
    · obtain ⟨rfl, rfl⟩ := only id o ho
      rfl
    · obtain ⟨rfl, e⟩ := only id _ ho
      injection e with e1 e2
      subst e1 e2
      exact ⟨fun b hb => ⟨(hP b hb).1, (hP b hb).2, .inr hb, fun j o _ hbj => by cases hbj⟩, fun w' hw => hF.keep hw⟩
    · exact absurd ((only i _ hi).1.trans (only j _ hj).1.symm) hij
  have hs : Sim E.W ⟨w, P, Z⟩ Z (fun _ => undef) ⟨rawV (uOf us) 0 p :: vI .i64 k :: List.replicate n (.one .und), [(9001, treeO P (resL p) (rawU (uOf us) 0 (resL p)))]⟩ { tmps := #[v, .int .i64 k] ++ Array.replicate (fn.ntmps - #[v, .int .i64 k].size) undef, defers := [] } w := by
    refine ⟨by rw [hU]; exact hw0, by simp [hn]; omega, fun i x y hx hy => ?_, rfl⟩
    simp only at hx hy
    have hy' : (v :: .int .i64 k :: List.replicate n undef)[i]? = some y := by
      rw [← Array.getElem?_toList] at hy
      simpa [hn] using hy
    match i, hx, hy' with
    | 0, hx, hy' =>
      simp at hx hy'
      subst hx hy'
      exact raw_rel (w' := w) (by rw [hU]; exact hF) (by rw [hU]; exact hv)
    | 1, hx, hy' =>
      simp at hx hy'
      subst hx hy'
      exact .one _ _ (show RelD Z w (.pv (.int .i64 k)) (.int .i64 k) from .pv _ rfl)
    | i + 2, hx, hy' =>
      have e1 := List.eq_of_mem_replicate (List.mem_of_getElem? (by simpa using hx))
      have e2 := List.eq_of_mem_replicate (List.mem_of_getElem? (by simpa using hy'))
      subst e1 e2
      exact .one _ _ (show RelC Z w (fun _ => undef) .und undef from rfl)
  refine calls_of_wp hf hb (wp_mono (hk.run _ w ⟨Z, _, hs⟩) fun e a' w' h' => ?_)
  obtain ⟨st', ⟨Z', ρ', hs'⟩, hk'⟩ := h'
  have fin : (aRet E st' fn.results.toList (· = .val (pI k')) ∧ aOb st'.ob 9001 fun o => o = treeO P (resL p') (rawU (uOf us) 0 (resL p))) → a'.defers = [] ∧ ∃ v, (results fn a'.tmps).run E.P w' = .ok v w' ∧ Ending.returned v = .returned (.int .i64 k') ∧ TurnA P w w' ∧ FamT w' P (resL p') us := by
    rintro ⟨hr, ho⟩
    obtain ⟨v, q, h1, h2, h3⟩ := aRet_get he hs' hr
    subst h3
    obtain ⟨o, ho, rfl⟩ := aOb_get ho
    rw [hU] at ho
    cases (show RelD _ _ (.pv (.int .i64 k')) v from h2) with
    | pv _ _ => exact ⟨hs'.df, _, h1, rfl, ⟨hs'.ws.os, hs'.ws.tape, hs'.ws.output, hs'.ws.size, fun b hb hp => hs'.ws.old b hb hp⟩, (hs'.ws.many.ok 9001 P _ ho).2 w' fun _ _ => rfl⟩
  cases e with
  | normal => exact fin hk'
  | ret => exact fin hk'
  | _ => exact hk'.elim
end
end Go.Proofs.YtmgcnmdbhahhlaaGreat
