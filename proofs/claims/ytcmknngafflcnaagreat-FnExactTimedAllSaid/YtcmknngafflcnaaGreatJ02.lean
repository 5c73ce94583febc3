/- J02 -/
import Derived.Test.YtcmknngafflcnaaGreatAvJ3
import Derived.OpenShut
set_option linter.unusedVariables false
set_option linter.unusedSimpArgs false
set_option maxRecDepth 100000
namespace Go.Proofs.YtcmknngafflcnaaGreat
open Go.RowKit
structure Cps {α : Type} (F : (α → Prop) → Prop) : Prop where
 mono : ∀ {P Q : α → Prop}, (∀ x, P x → Q x) → F P → F Q
 dj : ∀ {K : α → Prop}, F K → ∃ x, K x ∧ F (· = x)
section
variable {α β γ : Type}
theorem Cps.ret (x : α) : Cps fun K : α → Prop => K x := ⟨fun h hp => h x hp, fun h => ⟨x, h, rfl⟩⟩
theorem Cps.no : Cps fun _ : α → Prop => False := ⟨fun _ h => h, fun h => h.elim⟩
theorem Cps.bind {G : (β → Prop) → Prop} {H : β → (α → Prop) → Prop} (hg : Cps G) (hh : ∀ y, Cps (H y)) : Cps fun K => G fun y => H y K :=
 ⟨fun h hp => hg.mono (fun y => (hh y).mono h) hp, fun hk => by
  obtain ⟨y, hy, g⟩ := hg.dj hk
  obtain ⟨x, hx, e⟩ := (hh y).dj hy
  exact ⟨x, hx, hg.mono (fun y' e' => by subst e'; exact e) g⟩⟩
theorem Cps.map {G : (β → Prop) → Prop} (hg : Cps G) (f : β → α) : Cps fun K => G fun y => K (f y) := hg.bind fun y => Cps.ret (f y)
theorem Cps.and {F : (α → Prop) → Prop} (p : Prop) (hf : Cps F) : Cps fun K => p ∧ F K :=
 ⟨fun h hp => ⟨hp.1, hf.mono h hp.2⟩, fun hk => by obtain ⟨x, hx, e⟩ := hf.dj hk.2; exact ⟨x, hx, hk.1, e⟩⟩
theorem Cps.ex {F : β → (α → Prop) → Prop} (hf : ∀ y, Cps (F y)) : Cps fun K => ∃ y, F y K :=
 ⟨fun h ⟨y, hp⟩ => ⟨y, (hf y).mono h hp⟩, fun ⟨y, hk⟩ => by obtain ⟨x, hx, e⟩ := (hf y).dj hk; exact ⟨x, hx, y, e⟩⟩
theorem Cps.ab {F G : (α → Prop) → Prop} (p : Bool) (hf : Cps F) (hg : Cps G) : Cps fun K => AB p (F K) (G K) := by
 cases p with
 | true => exact ⟨fun h hp => AB.tt (hf.mono h (hp.t rfl)), fun hk => by obtain ⟨x, hx, e⟩ := hf.dj (hk.t rfl); exact ⟨x, hx, AB.tt e⟩⟩
 | false => exact ⟨fun h hp => AB.ff (hg.mono h (hp.f rfl)), fun hk => by obtain ⟨x, hx, e⟩ := hg.dj (hk.f rfl); exact ⟨x, hx, AB.ff e⟩⟩
theorem Cps.aw (k : IntKind) (n : Int) {F : Int → (α → Prop) → Prop} (hf : ∀ c, Cps (F c)) : Cps fun K => AW k n fun c => F c K :=
 ⟨fun h ⟨⟨c, e, hp⟩⟩ => ⟨⟨c, e, (hf c).mono h hp⟩⟩, fun ⟨⟨c, e, hk⟩⟩ => by obtain ⟨x, hx, g⟩ := (hf c).dj hk; exact ⟨x, hx, ⟨⟨c, e, g⟩⟩⟩⟩
theorem Cps.aix (xs : List (List AD)) (n : Int) {F : Nat → List AD → (α → Prop) → Prop} (hf : ∀ k x, Cps (F k x)) : Cps fun K => AIx xs n fun k x => F k x K :=
 ⟨fun h ⟨⟨k, x, e1, e2, hp⟩⟩ => ⟨⟨k, x, e1, e2, (hf k x).mono h hp⟩⟩, fun ⟨⟨k, x, e1, e2, hk⟩⟩ => by obtain ⟨y, hy, g⟩ := (hf k x).dj hk; exact ⟨y, hy, ⟨⟨k, x, e1, e2, g⟩⟩⟩⟩
theorem Cps.of {F G : (α → Prop) → Prop} (h : ∀ K, F K = G K) (hg : Cps G) : Cps F := by
 have : F = G := funext h
 rw [this]; exact hg
end
section
variable {E : ba} {st : ASt}
theorem CQ : ∀ (l : List AV) (n : Nat), Cps (aTm l n)
 | [], _ => Cps.no
 | x :: _, 0 => Cps.ret x
 | _ :: r, n + 1 => CQ r n
theorem sZ : ∀ (l : List (Nat × AO)) (i : Nat), Cps (aOb l i)
 | [], _ => Cps.no
 | (k, o) :: r, i => by
  refine Cps.of (G := fun K => match Nat.beq k i with | true => K o | false => aOb r i K) (fun K => rfl) ?_
  cases Nat.beq k i with
  | true => exact Cps.ret o
  | false => exact sZ r i
theorem mY {α : Type} : ∀ (l : List α) (n : Nat), Cps (jw l n)
 | [], _ => Cps.no
 | x :: _, 0 => Cps.ret x
 | _ :: r, n + 1 => mY r n
theorem ju {α : Type} : ∀ (l : List α) (n : Nat), Cps (qg l n)
 | l, 0 => by refine Cps.of (G := fun K => K l) (fun K => by cases l <;> rfl) (Cps.ret l)
 | [], n + 1 => Cps.no
 | _ :: r, n + 1 => ju r n
theorem ww {α : Type} : ∀ (n : Nat) (l : List α), Cps (CP l n)
 | 0, l => by refine Cps.of (G := fun K => K []) (fun K => by cases l <;> rfl) (Cps.ret [])
 | n + 1, [] => Cps.no
 | n + 1, x :: r => (ww n r).map fun r' => x :: r'
theorem ou : ∀ (l : List AD), Cps (rT l)
 | [] => Cps.ret []
 | x :: r => (ou r).map fun r' => AC.d x :: r'
theorem ca (T : TT) (t : TypeId) : Cps (aTI T t) := by
 unfold aTI
 cases T.get t with
 | some i => exact Cps.ret i
 | none => exact Cps.no
theorem tJ (v : Value) : Cps (xP v) := Cps.of (G := fun K => K (ofC v)) (fun K => by unfold xP ofC; split <;> rfl) (Cps.ret _)
theorem tL : ∀ l : List Value, Cps (Dn l)
 | [] => Cps.ret []
 | v :: r => (tJ v).bind fun c => (tL r).map fun r' => c :: r'
theorem bV (x : Operand) : Cps (aEv st x) := by
 cases x with
 | tmp t => exact CQ _ _
 | const v =>
  by_cases hv : ∃ cs, v = .agg cs
  ·obtain ⟨cs, rfl⟩ := hv
   exact (tL cs.toList).map AV.agg
  ·have key : ∀ K, aEv st (.const v) K = xP v fun c => K (AV.one c) := fun K => by
    cases v <;> first | rfl | exact absurd ⟨_, rfl⟩ hv
   exact Cps.of key ((tJ v).map AV.one)
 | func f => exact Cps.ret _
 | global g => exact Cps.no
theorem qh : ∀ xs : List Operand, Cps (xN st xs)
 | [] => Cps.ret []
 | x :: r => (bV x).bind fun v => (qh r).map fun r' => v :: r'
theorem qn (i : TI) (cs : List AC) : Cps (m0 i cs) := by
 unfold m0
 cases i.agg with
 | true => exact (ww _ _).map AV.agg
 | false =>
  cases cs with
  | nil => exact Cps.no
  | cons c r => exact Cps.ret _
theorem qm : ∀ l : List AC, Cps (zh l)
 | [] => Cps.ret []
 | c :: r => by
  cases c with
  | d x => exact (qm r).map fun r' => x :: r'
  | nil => exact (qm r).map fun r' => AD.sl [] :: r'
  | _ => exact Cps.no
theorem Dk (op : BinOp) (k : IntKind) (a b : Int) : Cps (y1 op k a b) := by
 cases op with
 | add => exact Cps.aw _ _ fun c => Cps.ret _
 | sub => exact Cps.aw _ _ fun c => Cps.ret _
 | mul => exact Cps.aw _ _ fun c => Cps.ret _
 | quo => exact Cps.and _ (Cps.aw _ _ fun c => Cps.ret _)
 | rem => exact Cps.and _ (Cps.ret _)
 | shr =>
  refine Cps.of (G := fun K => match decide (0 ≤ b) with | true => K (vI k (HQ k a b)) | false => False) (fun K => rfl) ?_
  cases decide (0 ≤ b) with
  | true => exact Cps.ret _
  | false => exact Cps.no
 | _ => first | exact Cps.ret _ | exact Cps.no
theorem wv (op : BinOp) (a b : ByteArray) : Cps (CO op a b) := by
 cases op with
 | add => exact Cps.and _ (Cps.ret _)
 | _ => first | exact Cps.ret _ | exact Cps.no
theorem Bv (op : BinOp) (a b : Bool) : Cps (xL op a b) := by
 cases op with
 | _ => first | exact Cps.ret _ | exact Cps.no
theorem wt (op : BinOp) (k k' : IntKind) (a b : Int) : Cps (fun K => match xR k k' with | true => y1 op k a b K | false => False) := by
 cases xR k k' with
 | true => exact Dk ..
 | false => exact Cps.no
theorem tu (op : BinOp) (t : TypeId) (a b : Bool) : Cps (fun K => aTI E.T t fun i => match i.kind with | .bool => xL op a b K | _ => False) :=
 (ca _ _).bind fun i => by
  cases i.kind with
  | bool => exact Bv ..
  | _ => exact Cps.no
theorem Eu {α : Type} (f : AV → α) (op : BinOp) (t : TypeId) (x y : AV) {F : (α → Prop) → Prop} (hF : Cps F) : Cps fun K => Df E op t x y (F K) fun v => K (f v) := by
 refine ⟨fun {P Q} hpq h => ?_, fun {K} h => ?_⟩ <;> unfold Df at h ⊢ <;> split at h
 all_goals first
  | exact hF.mono hpq h
  | exact hF.dj h
  | exact ((wt ..).map f).mono hpq h
  | exact ((wt ..).map f).dj h
  | exact ((wv ..).map f).mono hpq h
  | exact ((wv ..).map f).dj h
  | exact ((tu ..).map f).mono hpq h
  | exact ((tu ..).map f).dj h
theorem tn {α : Type} (f : AV → α) (o : Oper) : Cps fun K => jl E o st fun v => K (f v) :=
 ⟨fun hpq h => by obtain ⟨v, hk, hr⟩ := h.h; exact ⟨v, hpq _ hk, hr⟩, fun h => by obtain ⟨v, hk, hr⟩ := h.h; exact ⟨_, hk, ⟨v, rfl, hr⟩⟩⟩
theorem FQ (op : UnOp) (x : AV) : Cps (aUn op x False) := by
 refine ⟨fun {P Q} hpq h => ?_, fun {K} h => ?_⟩ <;> unfold aUn at h ⊢ <;> split at h
 all_goals first
  | exact h.elim
  | exact (Cps.ret _).mono hpq h
  | exact (Cps.ret _).dj h
  | exact (Cps.aw _ _ fun c => Cps.ret _).mono hpq h
  | exact (Cps.aw _ _ fun c => Cps.ret _).dj h
theorem eG {α : Type} (b : Bool) {F : (α → Prop) → Prop} (hf : Cps F) : Cps fun K => match (generalizing := false) b with | true => F K | false => False := by
 cases b with
 | true => exact hf
 | false => exact Cps.no
theorem Dj (s d : TypeId) (x : AV) : Cps (wi E s d x False) := by
 refine ⟨fun {P Q} hpq h => ?_, fun {K} h => ?_⟩ <;> unfold wi at h ⊢ <;> split at h
 all_goals first
  | exact h.elim
  | skip
 ·rename_i k n
  exact ((ca E.T s).bind fun _ => (ca E.T d).bind (H := fun i K => match i.kind with | .int k => AW k n fun c => K (vI k c) | _ => False) fun i => by
   cases i.kind with
   | int k => exact Cps.aw _ _ fun c => Cps.ret _
   | _ => exact Cps.no).mono hpq h
 ·rename_i k n
  exact ((ca E.T s).bind fun _ => (ca E.T d).bind (H := fun i K => match i.kind with | .int k => AW k n fun c => K (vI k c) | _ => False) fun i => by
   cases i.kind with
   | int k => exact Cps.aw _ _ fun c => Cps.ret _
   | _ => exact Cps.no).dj h
theorem tC (t : TypeId) (x : AV) (f : Nat) : Cps (gi E t x f) := by
 unfold gi
 refine (ca _ _).bind fun i => ?_
 cases i.kind with
 | st fs =>
  refine (mY _ _).bind fun p => (ca _ _).bind fun j => ?_
  cases j.size with
  | zero => exact Cps.no
  | succ n =>
   cases x with
   | one c =>
    cases c with
    | ref id k s off => exact Cps.ret _
    | ptr cs => exact (ju _ _).bind fun r => Cps.ret _
    | _ => exact Cps.no
   | _ => exact Cps.no
 | _ => exact Cps.no
theorem Dm (t : TypeId) (x : AV) : Cps (pq E st t x) := by
 unfold pq
 refine (ca _ _).bind fun i => ?_
 cases x with
 | one c =>
  cases c with
  | ref id k s off =>
   refine (sZ _ _).bind fun o => ?_
   cases o with
   | cells u cs =>
    cases k with
    | zero => exact (ju _ _).bind fun r => qn _ _
    | succ k => exact Cps.no
   | row e s' xs => exact eG _ (Cps.aix _ _ fun _ x => (ju _ _).bind fun r => (ou _).bind fun r => qn _ _)
   | frame vs us => exact Cps.no
   | any Q => exact Cps.no
   | many P Q => exact Cps.no
  | ptr cs => exact (ou _).bind fun cs => qn _ _
  | _ => exact Cps.no
 | _ => exact Cps.no
theorem kn (x : AV) : Cps (iy x) := by
 cases x with
 | one c => exact eG _ (Cps.ret _)
 | agg cs => exact eG _ (Cps.ret _)
 | tup vs => exact Cps.no
theorem wy (z : Value) : Cps (qo z) := by
 by_cases hv : ∃ cs, z = .agg cs
 ·obtain ⟨cs, rfl⟩ := hv
  exact (tL cs.toList).bind fun l => eG _ (Cps.ret _)
 ·have key : ∀ K, qo z K = xP z fun c => match fj [c] with | true => K [c] | false => False := fun K => by
   cases z <;> first | rfl | exact absurd ⟨_, rfl⟩ hv
  exact Cps.of key ((tJ z).bind fun c => eG _ (Cps.ret _))
theorem gJ : ∀ (l : List AC) (n : Nat) (xs : List AC), Cps (hL l n xs)
 | l, 0, [] => by refine Cps.of (G := fun K => K l) (fun K => by cases l <;> rfl) (Cps.ret l)
 | _ :: r, 0, x :: xs => (gJ r 0 xs).map fun r' => x :: r'
 | c :: r, n + 1, xs => by
  refine Cps.of (G := fun K => hL r n xs fun r' => K (c :: r')) (fun K => by cases xs <;> rfl) ((gJ r n xs).map fun r' => c :: r')
 | [], 0, _ :: _ => Cps.no
 | [], _ + 1, [] => Cps.no
 | [], _ + 1, _ :: _ => Cps.no
theorem rn {place : Nat → (Nat × Nat → Prop) → Prop} (hp : ∀ n, Cps (place n)) : ∀ (ps : List (Nat × Operand)) (l : List AC), Cps (yZ st place ps l)
 | [], l => Cps.ret l
 | (i, x) :: r, l => (hp i).bind fun p => (bV x).bind fun v => (kn v).bind fun vs => eG _ ((gJ _ _ _).bind fun l' => rn hp r l')
theorem rU : ∀ fs : List (Nat × TypeId), Cps (s0 E fs)
 | [] => Cps.ret []
 | p :: r => (ca _ _).bind fun j => (rU r).map fun q => (p.1, j.size) :: q
theorem Bw (t : TypeId) (ps : List (Nat × Operand)) : Cps (tx E st t ps) := by
 unfold tx
 refine (ca _ _).bind fun i => (wy _).bind fun z => ?_
 cases i.kind with
 | st fs => exact (rU _).bind fun places => (rn (fun n => mY _ _) _ _).bind fun l => Cps.ret _
 | arr n e => exact (ca _ _).bind fun j => (rn (fun n => Cps.ret _) _ _).bind fun l => Cps.ret _
 | _ => exact Cps.no
theorem tA (s : Nat) : ∀ (ps : List (Nat × Operand)) (a n : Nat), Cps (gZ st s ps a n)
 | [], a, n => eG _ (Cps.ret [])
 | (i, x) :: r, a, n => eG _ ((bV x).bind fun v => (kn v).bind fun vs => eG _ ((qm _).bind fun ds => (tA s r (a + 1) n).map fun r' => ds :: r'))
theorem BG (x : AV) : Cps (mZ st x) := by
 cases x with
 | one c =>
  cases c with
  | nil => exact Cps.ret _
  | d x =>
   cases x with
   | sl xs => exact Cps.ret _
   | pv v => exact Cps.no
   | x R => exact Cps.no
  | own id =>
   refine (sZ _ _).bind fun o => ?_
   cases o with
   | row _ _ xs => exact Cps.ret _
   | _ => exact Cps.no
  | _ => exact Cps.no
 | _ => exact Cps.no
theorem Ew (t : TypeId) (x : AV) : Cps (BB E st t x False) := by
 have rest : Cps fun K : AV → Prop => aTI E.T t fun i => match i.kind with | .sl _ => mZ st x fun xs => K (vI .i64 xs.length) | _ => False :=
  (ca _ _).bind fun i => by
   cases i.kind with
   | sl e => exact (BG _).bind fun xs => Cps.ret _
   | _ => exact Cps.no
 by_cases hs : ∃ s, x = .one (.d (.pv (.string s)))
 ·obtain ⟨s, rfl⟩ := hs
  exact (ca E.T t).bind (H := fun i K => match i.kind with | .str => K (vI .i64 s.size) | _ => False) fun i => by
   cases i.kind with
   | str => exact Cps.ret _
   | _ => exact Cps.no
 ·refine Cps.of (fun K => ?_) rest
  unfold BB
  split
  ·exact absurd ⟨_, rfl⟩ hs
  ·rfl
theorem tF (t : TypeId) (x i : AV) : Cps (gk E st t x i) := by
 refine ⟨fun {P Q} hpq h => ?_, fun {K} h => ?_⟩ <;> unfold gk at h ⊢ <;> split at h
 all_goals first
  | exact h.elim
  | skip
 all_goals
  rename_i k n
  have key : Cps fun K : AV → Prop => aTI E.T t fun ti => match ti.kind with
   | .sl e => aTI E.T e fun j => match j.size with
    | 0 => False
    | s + 1 => match (generalizing := false) x with
     | .one (.d (.sl xs)) => AIx xs n fun _ x => match y3 x (s + 1) with
      | true => K (.one (.ptr x))
      | false => False
     | .one (.own id) => aOb st.ob id fun o => match o with
      | .row _ s' xs => match Nat.beq (s + 1) s' with
       | true => AIx xs n fun k _ => K (.one (.ref id k (s + 1) 0))
       | false => False
      | _ => False
     | _ => False
   | _ => False := (ca _ _).bind fun ti => by
    cases ti.kind with
    | sl e =>
     refine (ca _ _).bind fun j => ?_
     cases j.size with
     | zero => exact Cps.no
     | succ s =>
      cases x with
      | one c =>
       cases c with
       | d x =>
        cases x with
        | sl xs => exact Cps.aix _ _ fun _ x => eG _ (Cps.ret _)
        | pv v => exact Cps.no
        | x R => exact Cps.no
       | own id =>
        refine (sZ _ _).bind fun o => ?_
        cases o with
        | row e' s' xs => exact eG _ (Cps.aix _ _ fun k _ => Cps.ret _)
        | _ => exact Cps.no
       | _ => exact Cps.no
      | _ => exact Cps.no
    | _ => exact Cps.no
  first
   | exact key.mono hpq h
   | exact key.dj h
theorem Bz (t : TypeId) (x i : AV) : Cps (rt E t x i False) := by
 refine ⟨fun {P Q} hpq h => ?_, fun {K} h => ?_⟩ <;> unfold rt at h ⊢ <;> split at h
 all_goals first
  | exact h.elim
  | skip
 all_goals
  rename_i s k n
  have key : Cps fun K : AV → Prop => aTI E.T t fun ti => match ti.kind with
   | .str => ∃ (k : Nat) (b : UInt8), n = (k : Int) ∧ s[k]? = some b ∧ K (vI .u8 b.toNat)
   | _ => False := (ca _ _).bind fun ti => by
    cases ti.kind with
    | str => exact Cps.ex fun k => Cps.ex fun b => Cps.and _ (Cps.and _ (Cps.ret _))
    | _ => exact Cps.no
  first
   | exact key.mono hpq h
   | exact key.dj h
theorem tw (x : Option Operand) : Cps (tv st x) := by
 cases x with
 | none => exact Cps.ret none
 | some x =>
  refine (bV x).bind fun v => ?_
  refine ⟨fun {P Q} hpq h => ?_, fun {K} h => ?_⟩ <;> split at h
  all_goals first
   | exact h.elim
   | exact hpq _ h
   | exact ⟨_, h, rfl⟩
theorem qf {α : Type} (len : Nat) (lo hi : Option Int) {F : Nat → Nat → (α → Prop) → Prop} (hf : ∀ l h, Cps (F l h)) : Cps fun K => HI len lo hi fun l h => F l h K :=
 Cps.ex fun l => Cps.ex fun h => Cps.and _ (Cps.and _ (Cps.and _ (Cps.and _ (hf l h))))
theorem ze (x : AV) (lo hi : Option Int) (i : TI) : Cps fun K => qk E x lo hi False K i := by
 refine ⟨fun {P Q} hpq h => ?_, fun {K} h => ?_⟩ <;> unfold qk at h ⊢ <;> split at h
 all_goals first
  | exact h.elim
  | skip
 ·rename_i s
  revert h
  cases i.kind with
  | str => exact (qf s.size lo hi fun l h => Cps.ret (vS (s.extract l h))).mono hpq
  | _ => exact fun h => h.elim
 ·rename_i xs
  revert h
  cases i.kind with
  | sl e => exact ((ca E.T e).bind fun j => qf xs.length lo hi fun l h => Cps.and _ (Cps.ret (AV.one (.d (.sl ((xs.take h).drop l)))))).mono hpq
  | _ => exact fun h => h.elim
 ·rename_i s
  revert h
  cases i.kind with
  | str => exact (qf s.size lo hi fun l h => Cps.ret (vS (s.extract l h))).dj
  | _ => exact fun h => h.elim
 ·rename_i xs
  revert h
  cases i.kind with
  | sl e => exact ((ca E.T e).bind fun j => qf xs.length lo hi fun l h => Cps.and _ (Cps.ret (AV.one (.d (.sl ((xs.take h).drop l)))))).dj
  | _ => exact fun h => h.elim
theorem BH (t : TypeId) (x : AV) (lo hi : Option Operand) : Cps (tU E st t x lo hi False) :=
 (tw lo).bind fun lo => (tw hi).bind fun hi => (ca _ _).bind fun i => ze x lo hi i
theorem By (t : TypeId) (x : AV) (f : Nat) : Cps (pQ E t x f) := by
 cases x with
 | agg cs =>
  refine (ca E.T t).bind (H := fun i K => match i.kind with | .st fs => jw fs f fun p => aTI E.T p.2 fun j => qg cs p.1 fun r => m0 j r K | _ => False) fun i => ?_
  cases i.kind with
  | st fs => exact (mY _ _).bind fun p => (ca _ _).bind fun j => (ju _ _).bind fun r => qn _ _
  | _ => exact Cps.no
 | _ => exact Cps.no
theorem tl (ob : List (Nat × AO)) (f : FuncId) (args : List AV) : Cps (ae E ob f args) :=
 ⟨fun hpq h => by obtain ⟨ps, res, h1, h2, h3⟩ := h.h; exact ⟨⟨ps, res, h1, h2, hpq _ h3⟩⟩, fun h => by obtain ⟨ps, res, h1, h2, h3⟩ := h.h; exact ⟨_, h3, ⟨⟨ps, res, h1, h2, rfl⟩⟩⟩⟩
theorem wj (d : Option Tmp) (t : TypeId) (cs : List AC) : Cps fun K : AV × Option AO → Prop => yY d t cs fun v oo => K (v, oo) := by
 cases d with
 | none => exact Cps.no
 | some d => exact eG _ (Cps.ret ((.one (.ref d 0 0 0), some (.cells t cs)) : AV × Option AO))
theorem Dg {α : Type} (v : AV) {F G : (α → Prop) → Prop} (hf : Cps F) (hg : Cps G) : Cps fun K => qe v (F K) (G K) := by
 refine ⟨fun {P Q} hpq h => ?_, fun {K} h => ?_⟩ <;> unfold qe at h ⊢ <;> split at h
 all_goals first
  | exact h.elim
  | exact (Cps.ab _ hf hg).mono hpq h
  | exact (Cps.ab _ hf hg).dj h
theorem Cps.v {G : (AV → Prop) → Prop} (h : Cps G) : Cps fun K : AV × Option AO → Prop => G fun v => K (v, none) := h.map fun v => (v, none)
theorem wz (o : Oper) : Cps fun K : AV × Option AO → Prop => gL E o st fun v oo => K (v, oo) := by
 obtain ⟨dst, op, ty, pos, g, af⟩ := o
 cases op with
 | move x => exact (bV x).v
 | assign x => exact (bV x).v
 | pick c a b => exact (bV c).bind fun c => Dg c (bV a).v (bV b).v
 | binOp op t x y z => exact (bV x).bind fun x => (bV y).bind fun y => Eu (fun v => ((v, none) : AV × Option AO)) op t x y (tn (fun v => ((v, none) : AV × Option AO)) _)
 | unOp op t x => exact (bV x).bind fun x => (FQ op x).v
 | convert s d x => exact (bV x).bind fun x => (Dj s d x).v
 | fieldAddr t x f => exact (bV x).bind fun x => (tC t x f).v
 | load t x => exact (bV x).bind fun x => (Dm t x).v
 | build t ps => exact (Bw t ps.toList).v
 | buildSlice t n ps =>
  refine (ca E.T t).bind (H := fun i K => match i.kind with
   | .sl e => aTI E.T e fun j => match j.size with
    | 0 => False
    | s + 1 => match Nat.ble (n * (s + 1)) 16777216 with
     | true => gZ st (s + 1) ps.toList 0 n fun xs => K ((.one (.d (.sl xs)), none) : AV × Option AO)
     | false => False
   | _ => False) fun i => ?_
  cases i.kind with
  | sl e =>
   refine (ca _ _).bind fun j => ?_
   cases j.size with
   | zero => exact Cps.no
   | succ s => exact eG _ ((tA _ _ _ _).bind fun xs => Cps.ret _)
  | _ => exact Cps.no
 | box t x => exact (bV x).bind fun x => (kn x).bind fun cs => wj dst t cs
 | alloc t => exact (ca E.T t).bind fun i => (wy _).bind fun cs => wj dst t cs
 | slice t x lo hi m =>
  cases m with
  | none => exact (bV x).bind fun x => (BH t x lo hi).v
  | some m => exact tn (fun v => ((v, none) : AV × Option AO)) _
 | indexAddr t x i => exact (bV x).bind fun x => (bV i).bind fun i => (tF t x i).v
 | index t x i => exact (bV x).bind fun x => (bV i).bind fun i => (Bz t x i).v
 | field t x f => exact (bV x).bind fun x => (By t x f).v
 | extract x i =>
  refine (bV x).bind (H := fun x K => match x with | .tup vs => jw vs i fun v => K ((v, none) : AV × Option AO) | _ => False) fun x => ?_
  cases x with
  | tup vs => exact (mY vs i).v
  | _ => exact Cps.no
 | nilCheck x =>
  refine (bV x).bind (H := fun x K => match x with
   | .one (.ref i k s off) => K ((.one (.ref i k s off), none) : AV × Option AO)
   | .one (.ptr cs) => K (.one (.ptr cs), none)
   | _ => False) fun x => ?_
  cases x with
  | one c =>
   cases c with
   | ref i k s off => exact Cps.ret _
   | ptr cs => exact Cps.ret _
   | _ => exact Cps.no
  | _ => exact Cps.no
 | call c =>
  obtain ⟨cl, args, ts⟩ := c
  cases cl with
  | builtin b =>
   cases b with
   | len =>
    refine (qh args.toList).bind (H := fun vs K => match ts.toList, vs with | t :: _, [x] => BB E st t x False fun v => K ((v, none) : AV × Option AO) | _, _ => False) fun vs => ?_
    cases ts.toList with
    | nil => exact Cps.no
    | cons t r =>
     match vs with
     | [] => exact Cps.no
     | [x] => exact (Ew t x).v
     | _ :: _ :: _ => exact Cps.no
   | _ => exact Cps.no
  | value f =>
   refine (bV f).bind (H := fun f K => match f with
    | .one (.d (.pv (.func (.func f) first caps))) => match first.toList, caps.toList with
     | [], [] => xN st args.toList fun args => ae E st.ob f args fun r => K ((r, none) : AV × Option AO)
     | _, _ => False
    | _ => False) fun f => ?_
   refine ⟨fun {P Q} hpq h => ?_, fun {K} h => ?_⟩ <;> split at h
   all_goals first
    | exact h.elim
    | skip
   all_goals
    revert h
    rename_i f first caps
    cases first.toList with
    | cons _ _ => exact fun h => h.elim
    | nil =>
     cases caps.toList with
     | cons _ _ => exact fun h => h.elim
     | nil =>
      first
       | exact ((qh args.toList).bind fun vs => (tl st.ob f vs).v).mono hpq
       | exact ((qh args.toList).bind fun vs => (tl st.ob f vs).v).dj
  | _ => exact Cps.no
 | _ => exact tn (fun v => ((v, none) : AV × Option AO)) _
end
theorem wA {E : ba} (he : E.Ok) {S : bt} {o : Oper} {P : ASt} {K : AV → Option AO → Prop} (h : gL E o P K) : ∃ v oo, iN E S o P v oo ∧ K v oo := by
 obtain ⟨⟨v, oo⟩, hk, e⟩ := (wz (E := E) (st := P) o).dj (K := fun p => K p.1 p.2) h
 have e2 : gL E o P fun v' oo' => v' = v ∧ oo' = oo := (wz (E := E) (st := P) o).mono (P := fun p => p = (v, oo)) (Q := fun p => p.1 = v ∧ p.2 = oo) (fun p hp => by subst hp; exact ⟨rfl, rfl⟩) e
 exact ⟨v, oo, uc he e2, hk⟩
end Go.Proofs.YtcmknngafflcnaaGreat
namespace Go.Proofs.YtcmknngafflcnaaGreat
open Go.RowKit
def iA {α : Type} : List α → Nat → α → (List α → Prop) → Prop
 | [], _, _, K => K []
 | _ :: r, 0, x, K => K (x :: r)
 | y :: r, i + 1, x, K => iA r i x fun r' => K (y :: r')
theorem fu {α : Type} : ∀ {l : List α} {i : Nat} {x : α} {K : List α → Prop}, iA l i x K → K (l.set i x)
 | [], _, _, _, h => h
 | _ :: _, 0, _, _, h => h
 | y :: r, i + 1, x, K, h => fu (l := r) (K := fun r' => K (y :: r')) h
theorem tO {v : AV} {P Q : List AV → Prop} (h : ∀ l, P l → Q l) : ∀ {l : List AV} {n : Nat}, iP l n v P → iP l n v Q
 | [], _, hp => hp.elim
 | _ :: r, 0, hp => h _ hp
 | x :: r, n + 1, hp => tO (P := fun r' => P (x :: r')) (Q := fun r' => Q (x :: r')) (fun l => h _) (l := r) (n := n) hp
def BD : List Nat → List Oper → List (AV × Option AO) → List AV → (List AV → List (Nat × AO) → Prop) → Prop
 | _, [], _, tm, K => K tm []
 | [], _ :: _, _, _, _ => False
 | _ :: _, _ :: _, [], _, _ => False
 | f :: fs, o :: ops, r :: R, tm, K => match f with
  | 0 => BD fs ops R tm K
  | 1 => match o.dst with
   | none => False
   | some d => match r with
    | (v, oo) => iP tm d v fun tm => match oo with
     | none => BD fs ops R tm K
     | some x => BD fs ops R tm fun tm obs => K tm ((d, x) :: obs)
  | _ + 2 => match o.dst with
   | none => False
   | some d => iP tm d (.one .dead) fun tm => BD fs ops R tm K
theorem qj {fl : Nat → Nat} : ∀ (ops : List Oper) (R : List (AV × Option AO)) (j : Nat) (tm : List AV) (K : List AV → List (Nat × AO) → Prop), BD ((List.range' j ops.length).map fl) ops R tm K → aMk fl ops R j tm K
 | [], R, j, tm, K, h => by cases R <;> exact h
 | _ :: _, [], j, tm, K, h => by rw [List.length_cons, List.range'_succ] at h; exact h.elim
 | o :: ops, r :: R, j, tm, K, h => by
  rw [List.length_cons, List.range'_succ, List.map_cons] at h
  unfold BD at h
  unfold aMk
  cases hf : fl j with
  | zero => rw [hf] at h; exact qj ops R (j + 1) tm K h
  | succ n =>
   rw [hf] at h
   cases hd : o.dst with
   | none => rw [hd] at h; cases n <;> exact h.elim
   | some d =>
    rw [hd] at h
    cases n with
    | zero =>
     obtain ⟨v, oo⟩ := r
     refine tO ?_ h
     intro tm' h2
     cases oo with
     | none => exact qj ops R (j + 1) tm' K h2
     | some x => exact qj ops R (j + 1) tm' _ h2
    | succ n => exact tO (fun tm' h2 => qj ops R (j + 1) tm' K h2) h
def mX (fs : List Nat) (pre : List Oper) (R : List (AV × Option AO)) (st : ASt) (K : ASt → Prop) : Prop :=
 match st with
 | ⟨tm, ob⟩ => BD fs pre R tm fun tm obs => Et obs ob fun ob => K ⟨tm, ob⟩
theorem rS {D : List (List Nat)} {pre : List Oper} {R : List (AV × Option AO)} {i : Nat} {st : ASt} {K : ASt → Prop} (h : mX ((List.range pre.length).map (flP D i)) pre R st K) : wk D pre R i st K := by
 obtain ⟨tm, ob⟩ := st
 rw [List.range_eq_range'] at h
 exact qj pre R 0 tm _ h
def cP (E : ba) (pre : List Oper) (st : ASt) : List Oper → List (List Nat) → Nat → List (AV × Option AO) → (List (AV × Option AO) → Prop) → Prop
 | [], _, _, R, K => K R
 | _ :: _, [], _, _, _ => False
 | o :: ops, fs :: FL, i, R, K => match o.guard with
  | none => mX fs pre R st fun P => gL E o P fun v oo => iA R i (v, oo) fun R => cP E pre st ops FL (i + 1) R K
  | some (g, want) => jw fs g fun f => match f with
   | 1 => jw R g fun rg => match rg.1 with
    | .one (.d (.pv (.bool p))) => AB p
     (match want with
      | true => mX fs pre R st fun P => gL E o P fun v oo => iA R i (v, oo) fun R => cP E pre st ops FL (i + 1) R K
      | false => iA R i (.one .und, none) fun R => cP E pre st ops FL (i + 1) R K)
     (match want with
      | true => iA R i (.one .und, none) fun R => cP E pre st ops FL (i + 1) R K
      | false => mX fs pre R st fun P => gL E o P fun v oo => iA R i (v, oo) fun R => cP E pre st ops FL (i + 1) R K)
    | .one .und => iA R i (.one .und, none) fun R => cP E pre st ops FL (i + 1) R K
    | _ => False
   | _ => False
section
variable {E : ba} {S : bt} {ops : List Oper} {D : List (List Nat)} {n0 : Nat} {st : ASt}
theorem ga {R : List (AV × Option AO)} {i j : Nat} {x : AV × Option AO} (h : j ≠ i) : vAt (R.set i x) j = vAt R j := by
 unfold vAt
 rw [List.getD_eq_getElem?_getD, List.getD_eq_getElem?_getD, List.getElem?_set_ne (fun e => h e.symm)]
theorem jb {R : List (AV × Option AO)} {i j : Nat} {x : AV × Option AO} (h : j ≠ i) : oAt (R.set i x) j = oAt R j := by
 unfold oAt
 rw [List.getD_eq_getElem?_getD, List.getD_eq_getElem?_getD, List.getElem?_set_ne (fun e => h e.symm)]
theorem lC {R : List (AV × Option AO)} {i : Nat} {x : AV × Option AO} (h : i < R.length) : vAt (R.set i x) i = x.1 := by
 unfold vAt
 rw [List.getD_eq_getElem?_getD, List.getElem?_set_self h]; rfl
theorem jr {R : List (AV × Option AO)} {i : Nat} {x : AV × Option AO} (h : i < R.length) : oAt (R.set i x) i = x.2 := by
 unfold oAt
 rw [List.getD_eq_getElem?_getD, List.getElem?_set_self h]; rfl
theorem ri {R R' : List (AV × Option AO)} {i : Nat} (h : ∀ j, inD D j i = true → vAt R j = vAt R' j ∧ oAt R j = oAt R' j) : stP ops D R n0 st i = stP ops D R' n0 st i := by
 have e1 : (List.range n0).filterMap (upP ops D R i) = (List.range n0).filterMap (upP ops D R' i) := oE fun j _ => by
  unfold upP
  cases hj : inD D j i with
  | true => simp [(h j hj).1]
  | false => simp
 have e2 : (List.range n0).filterMap (obF ops R fun j => inD D j i) = (List.range n0).filterMap (obF ops R' fun j => inD D j i) := oE fun j _ => by
  unfold obF
  cases hj : inD D j i with
  | true => simp [(h j hj).2]
  | false => simp [hj]
 simp only [stP, e1, e2]
theorem Ci (T : pn ops D n0) {i j : Nat} (hi : i < ops.length) (h : inD D j i = true) : j < i := by
 have := gN T (lf := fun j => decide (j < i)) (fun k hk e he => ?_) (i := i) (fun e he => ?_) h
 ·simpa using this
 ·have hki : k < i := by simpa using hk
  rw [bm (List.getElem?_eq_getElem (by omega : k < ops.length))] at he
  have := T.edge k _ (List.getElem?_eq_getElem (by omega)) _ he
  simp; omega
 ·rw [bm (List.getElem?_eq_getElem hi)] at he
  have := T.edge i _ (List.getElem?_eq_getElem hi) _ he
  simpa using this
theorem ew.keep (T : pn ops D n0) {R : List (AV × Option AO)} {i k : Nat} {o : Oper} {x : AV × Option AO} (hi : i < k) (hil : i < ops.length) (h : ew E S D R n0 (stP ops D R n0 st i) i o) : ew E S D (R.set k x) n0 (stP ops D (R.set k x) n0 st i) i o := by
 have hlt : ∀ j, inD D j i = true → j ≠ k := fun j hj e => by have := Ci T hil hj; omega
 have e : stP ops D (R.set k x) n0 st i = stP ops D R n0 st i := ri fun j hj => ⟨ga (hlt j hj), jb (hlt j hj)⟩
 have e1 : vAt (R.set k x) i = vAt R i := ga (by omega)
 have e2 : oAt (R.set k x) i = oAt R i := jb (by omega)
 unfold ew at h ⊢
 rw [e, e1, e2]
 cases hg : o.guard with
 | none => rw [hg] at h; exact h
 | some gw =>
  obtain ⟨g, want⟩ := gw
  rw [hg] at h
  obtain ⟨h1, h2, h3⟩ := h
  refine ⟨h1, h2, ?_⟩
  rw [ga (hlt g h2)]
  exact h3
theorem r5 {D : List (List Nat)} {i j : Nat} (h : flP D i j = 1) : inD D j i = true := by
 unfold flP at h
 split at h
 ·assumption
 ·split at h
  ·cases h
  ·split at h <;> cases h
theorem wE (he : E.Ok) (T : pn ops D n0) {K : List (AV × Option AO) → Prop} : ∀ (rest : List Oper) (i : Nat) (R : List (AV × Option AO)), (∀ k, (ops.take n0)[i + k]? = rest[k]?) → R.length = n0 →
  (∀ j o, j < i → ops[j]? = some o → ew E S D R n0 (stP ops D R n0 st j) j o) → cP E (ops.take n0) st rest ((List.range' i rest.length).map fun i => (List.range n0).map (flP D i)) i R K → ∃ RA, K RA ∧ ∀ j o, j < n0 → ops[j]? = some o → ew E S D RA n0 (stP ops D RA n0 st j) j o
 | [], i, R, hr, hl, hf, h => by
  refine ⟨R, h, fun j o hj ho => hf j o ?_ ho⟩
  have := hr 0
  simp only [Nat.add_zero, List.getElem?_nil] at this
  have h2 := List.getElem?_eq_none_iff.1 this
  have := T.le
  simp at h2
  omega
 | o :: rest, i, R, hr, hl, hf, h => by
  have h0 := hr 0
  simp only [Nat.add_zero, List.getElem?_cons_zero] at h0
  have hi : i < n0 := by
   have := (List.getElem?_eq_some_iff.1 h0).1
   simp at this
   omega
  have hio : ops[i]? = some o := by
   rw [List.getElem?_take, if_pos hi] at h0
   exact h0
  have hil : i < ops.length := (List.getElem?_eq_some_iff.1 hio).1
  have hr' : ∀ k, (ops.take n0)[i + 1 + k]? = rest[k]? := fun k => by
   have := hr (k + 1)
   rw [show i + 1 + k = i + (k + 1) by omega]
   simpa using this
  have next : ∀ x : AV × Option AO, cP E (ops.take n0) st rest ((List.range' (i + 1) rest.length).map fun i => (List.range n0).map (flP D i)) (i + 1) (R.set i x) K → ew E S D (R.set i x) n0 (stP ops D (R.set i x) n0 st i) i o → ∃ RA, K RA ∧ ∀ j o, j < n0 → ops[j]? = some o → ew E S D RA n0 (stP ops D RA n0 st j) j o := fun x hk hd =>
   wE he T rest (i + 1) (R.set i x) hr' (by simpa using hl) (fun j o' hj ho' => by
    rcases Nat.lt_succ_iff_lt_or_eq.1 hj with hj | hj
    ·exact (hf j o' hj ho').keep T hj (by omega)
    ·subst hj
     rw [hio] at ho'
     injection ho' with ho'
     subst ho'
     exact hd) hk
  have eP : ∀ x : AV × Option AO, stP ops D (R.set i x) n0 st i = stP ops D R n0 st i := fun x => ri fun j hj => by
   have := Ci T hil hj
   exact ⟨ga (by omega), jb (by omega)⟩
  have free : (mX ((List.range n0).map (flP D i)) (ops.take n0) R st fun P => gL E o P fun v oo => iA R i (v, oo) fun R => cP E (ops.take n0) st rest ((List.range' (i + 1) rest.length).map fun i => (List.range n0).map (flP D i)) (i + 1) R K) → ∃ x : AV × Option AO, iN E S o (stP ops D R n0 st i) x.1 x.2 ∧ cP E (ops.take n0) st rest ((List.range' (i + 1) rest.length).map fun i => (List.range n0).map (flP D i)) (i + 1) (R.set i x) K := fun h => by
   have hlen : (ops.take n0).length = n0 := by have := T.le; simp; omega
   have h1 := rp T.le (rS (by rw [hlen]; exact h))
   obtain ⟨v, oo, h2, h3⟩ := wA he h1
   exact ⟨(v, oo), h2, fu h3⟩
  rw [List.length_cons, List.range'_succ, List.map_cons] at h
  unfold cP at h
  cases hg : o.guard with
  | none =>
   rw [hg] at h
   obtain ⟨x, hx, hk⟩ := free h
   refine next x hk ?_
   unfold ew
   rw [hg, eP, lC (by omega), jr (by omega)]
   exact hx
  | some gw =>
   obtain ⟨g, want⟩ := gw
   rw [hg] at h
   obtain ⟨f, hf1, h3⟩ := cA h
   have hf0 : f = flP D i g := by
    rw [List.getElem?_map] at hf1
    obtain ⟨g', hg', rfl⟩ := Option.map_eq_some_iff.1 hf1
    have := List.getElem?_eq_some_iff.1 hg'
    obtain ⟨_, e⟩ := this
    simp at e
    rw [e]
   split at h3
   case h_2 => exact h3.elim
   have h1 : inD D g i = true := r5 hf0.symm
   obtain ⟨rg, hrg, h3⟩ := cA h3
   have hgi := Ci T hil h1
   have hvg : ∀ x : AV × Option AO, vAt (R.set i x) g = rg.1 := fun x => by
    rw [ga (by omega)]
    unfold vAt
    rw [List.getD_eq_getElem?_getD, hrg]; rfl
   split at h3
   ·rename_i p hp
    have run : (p = want) → (mX ((List.range n0).map (flP D i)) (ops.take n0) R st fun P => gL E o P fun v oo => iA R i (v, oo) fun R => cP E (ops.take n0) st rest ((List.range' (i + 1) rest.length).map fun i => (List.range n0).map (flP D i)) (i + 1) R K) → ∃ RA, K RA ∧ ∀ j o, j < n0 → ops[j]? = some o → ew E S D RA n0 (stP ops D RA n0 st j) j o := fun e h => by
     obtain ⟨x, hx, hk⟩ := free h
     refine next x hk ?_
     unfold ew
     rw [hg, eP, lC (by omega), jr (by omega)]
     exact ⟨by omega, h1, .inl ⟨p, by rw [hvg, hp], .inl ⟨e, hx⟩⟩⟩
    have skip : (p ≠ want) → (iA R i (.one .und, none) fun R => cP E (ops.take n0) st rest ((List.range' (i + 1) rest.length).map fun i => (List.range n0).map (flP D i)) (i + 1) R K) → ∃ RA, K RA ∧ ∀ j o, j < n0 → ops[j]? = some o → ew E S D RA n0 (stP ops D RA n0 st j) j o := fun e h => by
     refine next (.one .und, none) (fu h) ?_
     unfold ew
     rw [hg, eP, lC (by omega), jr (by omega)]
     exact ⟨by omega, h1, .inl ⟨p, by rw [hvg, hp], .inr ⟨e, rfl, rfl⟩⟩⟩
    cases p with
    | true =>
     have h := h3.t rfl
     cases want with
     | true => exact run rfl h
     | false => exact skip (by simp) h
    | false =>
     have h := h3.f rfl
     cases want with
     | true => exact skip (by simp) h
     | false => exact run rfl h
   ·rename_i hp
    refine next (.one .und, none) (fu h3) ?_
    unfold ew
    rw [hg, eP, lC (by omega), jr (by omega)]
    exact ⟨by omega, h1, .inr ⟨by rw [hvg, hp], rfl, rfl⟩⟩
   ·exact h3.elim
end
theorem AWP.drawF {E : ba} (he : E.Ok) {S : bt} {ops : Array Oper} {K : Exit → ASt → Prop} {id : Nat} {st : ASt} (n0 : Nat) (D : List (List Nat)) (R : List (AV × Option AO)) (T : pn ops.toList D n0) (F : pO E S ops.toList D R n0 st)
  (ht : mV (ops.toList.take n0) R st fun st => pc E S ops.toList (ops.toList.drop n0) st (K .normal)) : AWP E S (.region id ops true) K st := by
 refine ⟨fun a w hs => wp_region_any he.mixed ?_⟩
 have hg : w.grownBy { w with drawn := w.drawn + 1 } none := ⟨rfl, rfl, rfl, Nat.le_refl _, fun b hb _ => rfl⟩
 refine DC (Q := fun e a' w' => ∃ st', cL E.W S st' a' w' ∧ K e st') he T F (fun a w h => h) ht ops.size (Array.replicate ops.size false) a _ (by simp) (fun j _ => ?_) (fun j hj => ?_) ?_ ?_
 ·simp [bB, Array.getD_eq_getD_getElem?, Array.getElem?_replicate]
  split <;> rfl
 ·exfalso
  simp [bB, Array.getD_eq_getD_getElem?, Array.getElem?_replicate] at hj
  split at hj <;> simp at hj
 ·have : ∀ (lf : Nat → Bool) n, iC lf n ≤ n := fun lf n => by
   induction n with
   | zero => exact Nat.le_refl _
   | succ n ih => simp only [iC]; split <;> omega
  exact this _ _
 ·obtain ⟨Z, ρ, hs⟩ := hs
  have e : stS ops.toList R n0 st (bB (Array.replicate ops.size false)) = st := by
   have e1 : ∀ j, bB (Array.replicate ops.size false) j = false := fun j => by
    simp [bB, Array.getD_eq_getD_getElem?, Array.getElem?_replicate]
    split <;> rfl
   have e2 : (List.range n0).filterMap (upS ops.toList R (bB (Array.replicate ops.size false))) = [] := by
    rw [List.filterMap_eq_nil_iff]; intro j _; simp [upS, e1]
   have e3 : (List.range n0).filterMap (obF ops.toList R (bB (Array.replicate ops.size false))) = [] := by
    rw [List.filterMap_eq_nil_iff]; intro j _; simp [obF, e1]
   simp [stS, e2, e3, fC]
  rw [e]
  exact ⟨Z, ρ, hs.grow hg (fun _ h => h) fun _ h => .inl h⟩
def unq : Nat → Nat → List Nat
 | 0, _ => []
 | n + 1, x => match Nat.beq x 0 with
  | true => []
  | false => (x % 64 - 1) :: unq n (x / 64)
def bA : List Nat → List (List Nat)
 | [] => []
 | x :: r => unq 64 x :: bA r
def unp : Nat → Nat → List Nat
 | 0, _ => []
 | n + 1, x => (x % 3) :: unp n (x / 3)
def bQ (n : Nat) : List Nat → List (List Nat)
 | [] => []
 | x :: r => unp n x :: bQ n r
theorem AWP.drawK {E : ba} (he : E.Ok) {S : bt} {ops : Array Oper} {K : Exit → ASt → Prop} (id : Nat) {st : ASt} (n0 : Nat) (D FL : List (List Nat)) (hD : iE [] ops.toList = D) (hok : B3 ops.toList D n0 = true) (hfl : ((List.range n0).map fun i => (List.range n0).map (flP D i)) = FL) (hl : yr ops.toList n0 st.tm.length = true)
  (h : cP E (ops.toList.take n0) st (ops.toList.take n0) FL 0 (List.replicate n0 (.one .dead, none)) fun R => noB ops.toList D R n0 st = true ∧ mV (ops.toList.take n0) R st fun st => pc E S ops.toList (ops.toList.drop n0) st (K .normal)) : AWP E S (.region id ops true) K st := by
 have T := zx hD hok
 have hlen : (ops.toList.take n0).length = n0 := by have := T.le; simp at *; omega
 subst hfl
 have e : ((List.range n0).map fun i => (List.range n0).map (flP D i)) = ((List.range' 0 (ops.toList.take n0).length).map fun i => (List.range n0).map (flP D i)) := by rw [hlen, ← List.range_eq_range']
 rw [e] at h
 obtain ⟨R, ⟨hno, ht⟩, hf⟩ := wE (S := S) he T (ops.toList.take n0) 0 (List.replicate n0 (.one .dead, none)) (fun k => by simp) (by simp) (fun j o hj => absurd hj (Nat.not_lt_zero _)) h
 exact AWP.drawF he n0 D R T ⟨FU T hl hno, hf⟩ ht
end Go.Proofs.YtcmknngafflcnaaGreat
namespace Go.Proofs.YtcmknngafflcnaaGreat
open Go.RowKit
theorem zb {i : Nat} {o : AO} : ∀ {l : List (Nat × AO)} {K : List (Nat × AO) → Prop}, K (db l i o) → dX i o l K
 | [], _, h => h
 | (k, x) :: r, K, h => by
  simp only [dX]
  unfold db at h
  cases e : Nat.beq k i with
  | true => rw [if_pos (Nat.eq_of_beq_eq_true e)] at h; exact h
  | false => rw [if_neg (Nat.ne_of_beq_eq_false e)] at h; exact zb (l := r) (K := fun r' => K ((k, x) :: r')) h
theorem BI {K : AV → Prop} : ∀ {l : List AV} {n : Nat} {x : AV}, l[n]? = some x → K x → aTm l n K
 | [], n, x, h, _ => by simp at h
 | y :: r, 0, x, h, hk => by simp at h; subst h; exact hk
 | y :: r, n + 1, x, h, hk => BI (l := r) (n := n) (by simpa using h) hk
theorem zf {E : ba} {tm : List AV} {ob : List (Nat × AO)} {t : TypeId} {c k s off : Nat} {vv : AV} {o0 o1 : AO} (hob : bg ob c = some o0) (h : jn E ⟨[], [(c, o0)]⟩ t (.one (.ref c k s off)) vv fun st => st = ⟨[], [(c, o1)]⟩) :
  jn E ⟨tm, ob⟩ t (.one (.ref c k s off)) vv fun st => st = ⟨tm, db ob c o1⟩ := by
 have fin : ∀ X : AO, (dX c X [(c, o0)] fun ob => (⟨[], ob⟩ : ASt) = ⟨[], [(c, o1)]⟩) → dX c X ob fun ob' => (⟨tm, ob'⟩ : ASt) = ⟨tm, db ob c o1⟩ := fun X hX => by
  have h1 := bX hX
  simp only [db, if_true, ASt.mk.injEq, List.cons.injEq, Prod.mk.injEq, true_and, and_true] at h1
  subst h1
  exact zb rfl
 unfold jn at h ⊢
 refine (ca E.T t).mono (fun i h => (kn vv).mono (fun vs h => ?_) h) h
 cases hl : ru vs i.size with
 | false => rw [hl] at h; exact h
 | true =>
  rw [hl] at h
  obtain ⟨o, ho, hk⟩ := bH (l := [(c, o0)]) (i := c) h
  have : o = o0 := by simp only [bg, if_true, Option.some.injEq] at ho; exact ho.symm
  subst this
  refine BE hob ?_
  cases o with
  | cells u cs =>
   cases k with
   | zero => exact (gJ cs off vs).mono (fun cs' h => fin _ h) hk
   | succ k => exact hk
  | row e s' xs =>
   cases hs : Nat.beq s s' with
   | false => simp only [hs] at hk
   | true =>
    simp only [hs] at hk ⊢
    obtain ⟨k', x, e1, e2, hk⟩ := hk.h
    exact ⟨⟨k', x, e1, e2, (ou x).mono (fun x h => (gJ x off vs).mono (fun x' h => (qm x').mono (fun x' h => fin _ h) h) h) hk⟩⟩
  | frame vs us => exact hk
  | any Q => exact hk
  | many P Q => exact hk
structure fi (ops : List Oper) (D : List (List Nat)) (m : Nat) : Prop where
 hD : iE [] ops = D
 lt : m < ops.length
 nd : ((List.range m).map (dAt ops)).Nodup
 edge : ∀ i o, ops[i]? = some o → ∀ x ∈ kq o, x < i
 dst : ∀ i o, i < m → ops[i]? = some o → o.dst = some (dAt ops i)
 tail : ∀ i, m < i → i < ops.length → ∀ j, j < i → inD D j i = true
def qy (ops : List Oper) (D : List (List Nat)) (m : Nat) : Bool :=
 Nat.blt m ops.length && uV ((List.range m).map (dAt ops)) &&
 (List.range ops.length).all fun i => match ops[i]? with
  | some o => ((kq o).all fun x => Nat.blt x i) && (if i < m then o.dst.isSome else (if i = m then true else (List.range i).all fun j => inD D j i))
  | none => true
theorem kJ {ops : List Oper} {D : List (List Nat)} {m : Nat} (hD : iE [] ops = D) (h : qy ops D m = true) : fi ops D m := by
 simp only [qy, Bool.and_eq_true, List.all_eq_true] at h
 obtain ⟨⟨h1, h2⟩, h3⟩ := h
 have key : ∀ i o, ops[i]? = some o → _ := fun i o ho => by
  have hlt := (List.getElem?_eq_some_iff.1 ho).1
  have := h3 i (List.mem_range.2 hlt)
  rw [ho] at this
  simp only [Bool.and_eq_true, List.all_eq_true] at this
  exact this
 refine ⟨hD, Nat.le_of_ble_eq_true h1, rG h2, fun i o ho e he => ?_, fun i o hi ho => ?_, fun i hi hlt j hj => ?_⟩
 ·exact Nat.le_of_ble_eq_true ((key i o ho).1 e he)
 ·have := (key i o ho).2
  rw [if_pos hi] at this
  obtain ⟨d, hd⟩ := Option.isSome_iff_exists.1 this
  rw [hd]
  simp [dAt, ho, hd]
 ·have := (key i ops[i] (List.getElem?_eq_getElem hlt)).2
  rw [if_neg (by omega), if_neg (by omega), List.all_eq_true] at this
  exact this j (List.mem_range.2 hj)
theorem eK {ops : List Oper} {D : List (List Nat)} {m : Nat} (T : fi ops D m) {lf : Nat → Bool} (hc : ∀ j, lf j = true → ∀ e ∈ cn ops j, lf e = true) {i : Nat} (hi : ∀ e ∈ cn ops i, lf e = true) {j : Nat} (hj : inD D j i = true) : lf j = true := by
 have := jq ops (fun j => lf j = true) hc ops [] (fun k => by simp) (fun j hj => absurd hj (Nat.not_lt_zero _)) i hi j
 rw [T.hD] at this
 refine this ?_
 simpa [inD] using hj
section
variable {E : ba} {S : bt} {ops : List Oper} {D : List (List Nat)} {R : List (AV × Option AO)} {n0 : Nat} {st0 st : ASt}
theorem fi.le {ops : List Oper} {D : List (List Nat)} {m : Nat} (T : fi ops D m) : m ≤ ops.length := Nat.le_of_lt T.lt
theorem qq {D : List (List Nat)} {ops : List Oper} (T : fi ops D n0) (hl : yr ops n0 st0.tm.length = true) (hno : noB ops D R n0 st0 = true) : DBase ops D R n0 st0 := by
 simp only [yr, List.all_eq_true] at hl
 simp only [noB, List.all_eq_true] at hno
 have hno' : ∀ i, i < n0 → ∀ o, oAt R i = some o → _ := fun i hi o ho => by
  have := hno i (List.mem_range.2 hi)
  rw [ho] at this
  simp only [Bool.and_eq_true, List.all_eq_true] at this
  exact this
 refine ⟨T.le, T.nd, T.dst, fun j hj => Nat.le_of_ble_eq_true (hl j (List.mem_range.2 hj)), fun j hj hne => ?_, fun i hi hne => ?_, fun i j hi hj hne hd hji => ?_⟩
 ·obtain ⟨o, ho⟩ := Option.ne_none_iff_exists'.1 hne
  have := (hno' j hj o ho).1.1.1
  simpa using this
 ·obtain ⟨o, ho⟩ := Option.ne_none_iff_exists'.1 hne
  have := hno' i hi o ho
  exact ⟨this.1.1.2, this.1.2⟩
 ·obtain ⟨o, ho⟩ := Option.ne_none_iff_exists'.1 hne
  have := (hno' i hi o ho).2 j (List.mem_range.2 hj)
  simp only [hd, Bool.false_or, Bool.or_eq_true, Bool.and_eq_true] at this
  rcases this with this | ⟨h1, h2⟩
  ·exact absurd (Nat.eq_of_beq_eq_true this) hji
  ·refine ⟨h1, fun o' ho' => ?_⟩
   rw [ho'] at h2
   exact h2
theorem Gq (he : E.Ok) {D : List (List Nat)} {ops : List Oper} (T : fi ops D n0) {i : Nat} {o : Oper} (hi : i < n0) {r : AV × Option AO} (hr : R[i]? = some r) (hfact : CH E D (ops.take n0) R st0 i o r) : ew E S D R n0 (stP ops D R n0 st0 i) i o := by
 have hv : vAt R i = r.1 := by simp [vAt, List.getD, hr]
 have hoo : oAt R i = r.2 := by simp [oAt, List.getD, hr]
 have free : (wk D (ops.take n0) R i st0 fun P => gL E o P fun v oo => v = r.1 ∧ oo = r.2) → iN E S o (stP ops D R n0 st0 i) (vAt R i) (oAt R i) := fun h => by
  rw [hv, hoo]
  exact uc he (rp T.le h)
 unfold ew
 unfold CH at hfact
 cases hg : o.guard with
 | none =>
  rw [hg] at hfact
  exact free hfact
 | some gw =>
  obtain ⟨g, want⟩ := gw
  rw [hg] at hfact
  obtain ⟨h1, h2, h3⟩ := hfact
  obtain ⟨rg, hrg, h3⟩ := cA h3
  have hgn : g < n0 := by
   have h4 : g < (ops.take n0).length := Nat.le_of_ble_eq_true h2
   simp at h4
   omega
  refine ⟨hgn, h1, ?_⟩
  have hvg : vAt R g = rg.1 := by simp [vAt, List.getD, hrg]
  split at h3
  ·rename_i p hp
   refine .inl ⟨p, by rw [hvg, hp], ?_⟩
   cases p with
   | true =>
    have h := h3.t rfl
    cases want with
    | true => exact .inl ⟨rfl, free h⟩
    | false => exact .inr ⟨by simp, by rw [hv, show r = (.one .und, none) from h], by rw [hoo, show r = (.one .und, none) from h]⟩
   | false =>
    have h := h3.f rfl
    cases want with
    | false => exact .inl ⟨rfl, free h⟩
    | true => exact .inr ⟨by simp, by rw [hv, show r = (.one .und, none) from h], by rw [hoo, show r = (.one .und, none) from h]⟩
  ·exact h3.elim
theorem oO (T : fi ops D n0) {i j : Nat} (hi : i < ops.length) (h : inD D j i = true) : j < i := by
 have := eK T (lf := fun j => decide (j < i)) (fun k hk e he => ?_) (i := i) (fun e he => ?_) h
 ·simpa using this
 ·have hki : k < i := by simpa using hk
  rw [bm (List.getElem?_eq_getElem (by omega : k < ops.length))] at he
  have := T.edge k _ (List.getElem?_eq_getElem (by omega)) _ he
  simp; omega
 ·rw [bm (List.getElem?_eq_getElem hi)] at he
  have := T.edge i _ (List.getElem?_eq_getElem hi) _ he
  simpa using this
theorem ew.keepF (T : fi ops D n0) {R : List (AV × Option AO)} {i k : Nat} {o : Oper} {x : AV × Option AO} (hi : i < k) (hil : i < ops.length) (h : ew E S D R n0 (stP ops D R n0 st i) i o) : ew E S D (R.set k x) n0 (stP ops D (R.set k x) n0 st i) i o := by
 have hlt : ∀ j, inD D j i = true → j ≠ k := fun j hj e => by have := oO T hil hj; omega
 have e : stP ops D (R.set k x) n0 st i = stP ops D R n0 st i := ri fun j hj => ⟨ga (hlt j hj), jb (hlt j hj)⟩
 have e1 : vAt (R.set k x) i = vAt R i := ga (by omega)
 have e2 : oAt (R.set k x) i = oAt R i := jb (by omega)
 unfold ew at h ⊢
 rw [e, e1, e2]
 cases hg : o.guard with
 | none => rw [hg] at h; exact h
 | some gw =>
  obtain ⟨g, want⟩ := gw
  rw [hg] at h
  obtain ⟨h1, h2, h3⟩ := h
  refine ⟨h1, h2, ?_⟩
  rw [ga (hlt g h2)]
  exact h3
theorem t4 (he : E.Ok) (T : fi ops D n0) {K : List (AV × Option AO) → Prop} : ∀ (rest : List Oper) (i : Nat) (R : List (AV × Option AO)), (∀ k, (ops.take n0)[i + k]? = rest[k]?) → R.length = n0 →
  (∀ j o, j < i → ops[j]? = some o → ew E S D R n0 (stP ops D R n0 st j) j o) → cP E (ops.take n0) st rest ((List.range' i rest.length).map fun i => (List.range n0).map (flP D i)) i R K → ∃ RA, K RA ∧ ∀ j o, j < n0 → ops[j]? = some o → ew E S D RA n0 (stP ops D RA n0 st j) j o
 | [], i, R, hr, hl, hf, h => by
  refine ⟨R, h, fun j o hj ho => hf j o ?_ ho⟩
  have := hr 0
  simp only [Nat.add_zero, List.getElem?_nil] at this
  have h2 := List.getElem?_eq_none_iff.1 this
  have := T.le
  simp at h2
  omega
 | o :: rest, i, R, hr, hl, hf, h => by
  have h0 := hr 0
  simp only [Nat.add_zero, List.getElem?_cons_zero] at h0
  have hi : i < n0 := by
   have := (List.getElem?_eq_some_iff.1 h0).1
   simp at this
   omega
  have hio : ops[i]? = some o := by
   rw [List.getElem?_take, if_pos hi] at h0
   exact h0
  have hil : i < ops.length := (List.getElem?_eq_some_iff.1 hio).1
  have hr' : ∀ k, (ops.take n0)[i + 1 + k]? = rest[k]? := fun k => by
   have := hr (k + 1)
   rw [show i + 1 + k = i + (k + 1) by omega]
   simpa using this
  have next : ∀ x : AV × Option AO, cP E (ops.take n0) st rest ((List.range' (i + 1) rest.length).map fun i => (List.range n0).map (flP D i)) (i + 1) (R.set i x) K → ew E S D (R.set i x) n0 (stP ops D (R.set i x) n0 st i) i o → ∃ RA, K RA ∧ ∀ j o, j < n0 → ops[j]? = some o → ew E S D RA n0 (stP ops D RA n0 st j) j o := fun x hk hd =>
   t4 he T rest (i + 1) (R.set i x) hr' (by simpa using hl) (fun j o' hj ho' => by
    rcases Nat.lt_succ_iff_lt_or_eq.1 hj with hj | hj
    ·exact (hf j o' hj ho').keepF T hj (by omega)
    ·subst hj
     rw [hio] at ho'
     injection ho' with ho'
     subst ho'
     exact hd) hk
  have eP : ∀ x : AV × Option AO, stP ops D (R.set i x) n0 st i = stP ops D R n0 st i := fun x => ri fun j hj => by
   have := oO T hil hj
   exact ⟨ga (by omega), jb (by omega)⟩
  have free : (mX ((List.range n0).map (flP D i)) (ops.take n0) R st fun P => gL E o P fun v oo => iA R i (v, oo) fun R => cP E (ops.take n0) st rest ((List.range' (i + 1) rest.length).map fun i => (List.range n0).map (flP D i)) (i + 1) R K) → ∃ x : AV × Option AO, iN E S o (stP ops D R n0 st i) x.1 x.2 ∧ cP E (ops.take n0) st rest ((List.range' (i + 1) rest.length).map fun i => (List.range n0).map (flP D i)) (i + 1) (R.set i x) K := fun h => by
   have hlen : (ops.take n0).length = n0 := by have := T.le; simp; omega
   have h1 := rp T.le (rS (by rw [hlen]; exact h))
   obtain ⟨v, oo, h2, h3⟩ := wA he h1
   exact ⟨(v, oo), h2, fu h3⟩
  rw [List.length_cons, List.range'_succ, List.map_cons] at h
  unfold cP at h
  cases hg : o.guard with
  | none =>
   rw [hg] at h
   obtain ⟨x, hx, hk⟩ := free h
   refine next x hk ?_
   unfold ew
   rw [hg, eP, lC (by omega), jr (by omega)]
   exact hx
  | some gw =>
   obtain ⟨g, want⟩ := gw
   rw [hg] at h
   obtain ⟨f, hf1, h3⟩ := cA h
   have hf0 : f = flP D i g := by
    rw [List.getElem?_map] at hf1
    obtain ⟨g', hg', rfl⟩ := Option.map_eq_some_iff.1 hf1
    have := List.getElem?_eq_some_iff.1 hg'
    obtain ⟨_, e⟩ := this
    simp at e
    rw [e]
   split at h3
   case h_2 => exact h3.elim
   have h1 : inD D g i = true := r5 hf0.symm
   obtain ⟨rg, hrg, h3⟩ := cA h3
   have hgi := oO T hil h1
   have hvg : ∀ x : AV × Option AO, vAt (R.set i x) g = rg.1 := fun x => by
    rw [ga (by omega)]
    unfold vAt
    rw [List.getD_eq_getElem?_getD, hrg]; rfl
   split at h3
   ·rename_i p hp
    have run : (p = want) → (mX ((List.range n0).map (flP D i)) (ops.take n0) R st fun P => gL E o P fun v oo => iA R i (v, oo) fun R => cP E (ops.take n0) st rest ((List.range' (i + 1) rest.length).map fun i => (List.range n0).map (flP D i)) (i + 1) R K) → ∃ RA, K RA ∧ ∀ j o, j < n0 → ops[j]? = some o → ew E S D RA n0 (stP ops D RA n0 st j) j o := fun e h => by
     obtain ⟨x, hx, hk⟩ := free h
     refine next x hk ?_
     unfold ew
     rw [hg, eP, lC (by omega), jr (by omega)]
     exact ⟨by omega, h1, .inl ⟨p, by rw [hvg, hp], .inl ⟨e, hx⟩⟩⟩
    have skip : (p ≠ want) → (iA R i (.one .und, none) fun R => cP E (ops.take n0) st rest ((List.range' (i + 1) rest.length).map fun i => (List.range n0).map (flP D i)) (i + 1) R K) → ∃ RA, K RA ∧ ∀ j o, j < n0 → ops[j]? = some o → ew E S D RA n0 (stP ops D RA n0 st j) j o := fun e h => by
     refine next (.one .und, none) (fu h) ?_
     unfold ew
     rw [hg, eP, lC (by omega), jr (by omega)]
     exact ⟨by omega, h1, .inl ⟨p, by rw [hvg, hp], .inr ⟨e, rfl, rfl⟩⟩⟩
    cases p with
    | true =>
     have h := h3.t rfl
     cases want with
     | true => exact run rfl h
     | false => exact skip (by simp) h
    | false =>
     have h := h3.f rfl
     cases want with
     | true => exact skip (by simp) h
     | false => exact run rfl h
   ·rename_i hp
    refine next (.one .und, none) (fu h3) ?_
    unfold ew
    rw [hg, eP, lC (by omega), jr (by omega)]
    exact ⟨by omega, h1, .inr ⟨by rw [hvg, hp], rfl, rfl⟩⟩
   ·exact h3.elim
end
structure Flt (E : ba) (S : bt) (ops : List Oper) (D : List (List Nat)) (m : Nat) (R0 R1 : List (AV × Option AO)) (st0 st1 : ASt) : Prop where
 F0 : pO E S ops D R0 m st0
 B1 : DBase ops D R1 m st1
 out1 : ∀ i o, i < m → inD D i m = false → ops[i]? = some o → ew E S D R1 m (stP ops D R1 m st1 i) i o
 step : ∀ o, ops[m]? = some o → o.guard = none ∧ ∀ l : Nat → Bool, (∀ j, inD D j m = true → l j = true) → ∀ a w, cL E.W S (stS ops R0 m st0 l) a w → ∀ Q, Oper.wp E.P o a w (fun a' w' => cL E.W S (stS ops R1 m st1 l) a' w') Q
section
variable {E : ba} {S : bt} {ops : Array Oper} {n0 : Nat} {st0 st1 : ASt} {R0 R1 : List (AV × Option AO)} {K : ASt → Prop} {Q : Exit → Act → World → Prop}
theorem j7 {listed : Array Bool} (hs : listed.size = ops.size) {i : Nat} :
  i ∈ Region.ready .any ops listed ↔ i < ops.size ∧ bB listed i = false ∧ ∀ e ∈ cn ops.toList i, bB listed e = true := by
 rw [mem_ready]
 constructor
 ·rintro ⟨h1, o, ho, h2⟩
  have hlt := (Array.getElem?_eq_some_iff.1 ho).1
  refine ⟨hlt, ?_, fun e he => ?_⟩
  ·simp only [bB, Array.getD_eq_getD_getElem?] at h1 ⊢
   rw [Array.getElem?_eq_getElem (by omega)] at h1 ⊢
   simpa using h1
  ·rw [bm (by simpa using ho)] at he
   obtain ⟨e', he', rfl⟩ := List.mem_map.1 he
   obtain ⟨hm, hb⟩ := List.mem_filter.1 he'
   exact h2 e' (by simpa using hm) hb
 ·rintro ⟨hlt, h1, h2⟩
  refine ⟨?_, ops[i], Array.getElem?_eq_getElem hlt, fun e he hb => ?_⟩
  ·simp only [bB, Array.getD_eq_getD_getElem?] at h1 ⊢
   rw [Array.getElem?_eq_getElem (by omega)] at h1 ⊢
   simpa using h1
  ·refine h2 _ ?_
   rw [bm (o := ops[i]) (by simp [hlt])]
   exact List.mem_map.2 ⟨e, List.mem_filter.2 ⟨by simpa using he, hb⟩, rfl⟩
theorem B5 (he : E.Ok) {D : List (List Nat)} (T : fi ops.toList D n0) (hQ : ∀ a w, (∃ st', cL E.W S st' a w ∧ K st') → Q .normal a w) :
  ∀ (fuel m : Nat) (listed : Array Bool) (st : ASt) (a : Act) (w : World), listed.size = ops.size → n0 < m → (∀ j, j < ops.size → bB listed j = decide (j < m)) → ops.size - m ≤ fuel → cL E.W S st a w → pc E S ops.toList (ops.toList.drop m) st K → wpAny E.P .any ops Q fuel listed a w := by
 intro fuel
 induction fuel with
 | zero =>
  intro m listed st a w hs hm hl hf h hk
  rw [List.drop_eq_nil_of_le (by simp; omega)] at hk
  refine ⟨?_, hQ a w ⟨st, h, hk⟩⟩
  rw [List.eq_nil_iff_forall_not_mem]
  intro i hi
  obtain ⟨h1, h2, _⟩ := (j7 hs).1 hi
  rw [hl i h1] at h2
  simp at h2
  omega
 | succ fuel ih =>
  intro m listed st a w hs hm hl hf h hk
  have hready : ∀ i, i ∈ Region.ready .any ops listed ↔ i = m ∧ m < ops.size := by
   intro i
   rw [j7 hs]
   constructor
   ·rintro ⟨h1, h2, h3⟩
    rw [hl i h1] at h2
    simp at h2
    have hc : ∀ j, bB listed j = true → ∀ e ∈ cn ops.toList j, bB listed e = true := by
     intro j hj e hej
     by_cases hjs : j < ops.size
     ·rw [hl j hjs] at hj
      rw [bm (o := ops[j]) (by simp [hjs])] at hej
      have := T.edge j ops[j] (by simp [hjs]) _ hej
      rw [hl _ (by omega)]
      simp at hj ⊢
      omega
     ·simp [bB, Array.getD_eq_getD_getElem?, Array.getElem?_eq_none (show listed.size ≤ j by omega)] at hj
    refine ⟨?_, by omega⟩
    apply Nat.le_antisymm _ h2
    apply Nat.le_of_not_lt
    intro hlt
    have := eK T hc h3 (T.tail i (by omega) (by simpa using h1) m hlt)
    rw [hl m (by omega)] at this
    simp at this
   ·rintro ⟨rfl, h1⟩
    refine ⟨h1, by rw [hl i h1]; simp, fun e hej => ?_⟩
    rw [bm (o := ops[i]) (by simp [h1])] at hej
    have := T.edge i ops[i] (by simp [h1]) _ hej
    rw [hl _ (by omega)]
    simpa using this
  refine ⟨fun hnil => ?_, fun i hi => ?_⟩
  ·have : ops.size ≤ m := by
    apply Nat.le_of_not_lt
    intro hlt
    have := (hready m).2 ⟨rfl, hlt⟩
    rw [hnil] at this
    cases this
   rw [List.drop_eq_nil_of_le (by simpa using this)] at hk
   exact hQ a w ⟨st, h, hk⟩
  ·obtain ⟨rfl, hlt⟩ := (hready i).1 hi
   rw [List.drop_eq_getElem_cons (by simpa using hlt)] at hk
   unfold wpOp
   rw [Array.getElem?_eq_getElem hlt]
   have next : ∀ st' a' w', cL E.W S st' a' w' → pc E S ops.toList (ops.toList.drop (i + 1)) st' K → wpAny E.P .any ops Q fuel (listed.setIfInBounds i true) a' w' := by
    intro st' a' w' h' hk'
    refine ih (i + 1) _ st' a' w' (by simpa using hs) (by omega) (fun j hj => ?_) (by omega) h' hk'
    rw [gU (by omega)]
    simp only []
    rw [hl j hj]
    by_cases hji : j = i
    ·subst hji; simp [Nat.beq_refl]
    ·have : Nat.beq j i = false := by
      cases h' : Nat.beq j i with
      | false => rfl
      | true => exact absurd (Nat.eq_of_beq_eq_true h') hji
     simp [this]
     omega
   obtain ⟨Z, ρ, h⟩ := h
   simp only [Array.getElem_toList] at hk
   rcases gj h hk with ⟨hw, st', hs', hk⟩ | ⟨hw, st', hs', hk⟩
   ·simp only [Array.toArray_toList] at hw
    simp only [hw, if_true]
    refine .inl (Oper.wp_mono (fun a' w' h' => ?_) (oy he hs' hk Q))
    obtain ⟨st2, h2, hk2⟩ := h'
    exact next st2 a' w' h2 hk2
   ·simp only [Array.toArray_toList] at hw
    simp only [hw, Bool.false_eq_true, if_false]
    have := hs'.put ops[i].dst (x := .one .und) (v := undef) (.one _ _ (show eh Z w ρ .und undef from rfl))
    exact next _ _ w ⟨Z, ρ, this⟩ (cY hk)
theorem B4 (he : E.Ok) {D : List (List Nat)} {m : Nat} (T : fi ops.toList D m) (F : Flt E S ops.toList D m R0 R1 st0 st1) (hQ : ∀ a w, (∃ st', cL E.W S st' a w ∧ K st') → Q .normal a w)
  (ht : mV (ops.toList.take m) R1 st1 fun st => pc E S ops.toList (ops.toList.drop (m + 1)) st K) :
  ∀ (fuel : Nat) (listed : Array Bool) (a : Act) (w : World), listed.size = ops.size → (∀ j, m < j → bB listed j = false) → (∀ j, bB listed j = true → ∀ e ∈ cn ops.toList j, bB listed e = true) → iC (bB listed) ops.size ≤ fuel →
   (bB listed m = false → cL E.W S (stS ops.toList R0 m st0 (bB listed)) a w) → (bB listed m = true → cL E.W S (stS ops.toList R1 m st1 (bB listed)) a w) → wpAny E.P .any ops Q fuel listed a w := by
 intro fuel
 have hle : m ≤ ops.toList.length := T.le
 have hlt0 : m < ops.toList.length := T.lt
 have hle' : m < ops.size := by simpa using hlt0
 induction fuel with
 | zero =>
  intro listed a w hs htl hc hf h0 h1
  have hall := rA (Nat.le_zero.1 hf)
  have h := h1 (hall m hle')
  have hn0 : ops.size ≤ m + 1 := by
   apply Nat.le_of_not_lt
   intro hlt
   have h1 := hall (m + 1) hlt
   rw [htl (m + 1) (by omega)] at h1
   cases h1
  refine ⟨?_, hQ a w ⟨_, h, ?_⟩⟩
  ·rw [List.eq_nil_iff_forall_not_mem]
   intro i hi
   obtain ⟨h1, h2, _⟩ := (j7 hs).1 hi
   rw [hall i h1] at h2
   cases h2
  ·have := km hle ht
   rw [List.drop_eq_nil_of_le (by simpa using hn0)] at this
   have e : stS ops.toList R1 m st1 (bB listed) = stS ops.toList R1 m st1 fun _ => true := kf fun j hj => by rw [hall j (by omega)]
   rw [e]
   exact this
 | succ fuel ih =>
  intro listed a w hs htl hc hf h0 h1
  by_cases hall : ∀ j, j < m + 1 → bB listed j = true
  ·have h := h1 (hall m (by omega))
   have e : stS ops.toList R1 m st1 (bB listed) = stS ops.toList R1 m st1 fun _ => true := kf fun j hj => by rw [hall j (by omega)]
   rw [e] at h
   have h2 := ya (m := m + 1) (fun j hj => htl j (by omega)) (n := ops.size)
   refine B5 he T hQ (fuel + 1) (m + 1) listed _ a w hs (by omega) (fun j hj => ?_) (by omega) h (km hle ht)
   by_cases hj0 : j < m + 1
   ·rw [hall j hj0]; simp [hj0]
   ·rw [htl j (by omega)]; simp [hj0]
  ·refine ⟨fun hnil => ?_, fun i hi => ?_⟩
   ·exfalso
    apply hall
    intro j
    induction j using Nat.strongRecOn with
    | ind j ihj =>
     intro hj
     cases hlj : bB listed j with
     | true => rfl
     | false =>
      have : j ∈ Region.ready .any ops listed := (j7 hs).2 ⟨by omega, hlj, fun e hej => by
       have hjs : j < ops.size := by omega
       rw [bm (o := ops[j]) (by simp [hjs])] at hej
       have := T.edge j ops[j] (by simp [hjs]) _ hej
       exact ihj _ this (by omega)⟩
      rw [hnil] at this
      cases this
   ·obtain ⟨hlt, hli, haf⟩ := (j7 hs).1 hi
    have hi0 : i ≤ m := by
     apply Nat.le_of_not_lt
     intro hge
     apply hall
     intro j hj
     exact eK T hc haf (T.tail i hge (by simpa using hlt) j (by omega))
    have hDl : ∀ j, inD D j i = true → bB listed j = true := fun j hj => eK T hc haf hj
    have hAl : ∀ j, j < m → inD D i j = true → bB listed j = false := fun j _ hj => by
     cases hlj : bB listed j with
     | false => rfl
     | true =>
      have := eK T hc (hc j hlj) hj
      rw [hli] at this
      cases this
    have hget : ops.toList[i]? = some ops[i] := by simp [hlt]
    have elf := gU (listed := listed) (i := i) (by omega)
    have next : ∀ a' w', (bB listed m = false → i ≠ m → cL E.W S (stS ops.toList R0 m st0 fun j => bB listed j || Nat.beq j i) a' w') → (bB listed m = true ∨ i = m → cL E.W S (stS ops.toList R1 m st1 fun j => bB listed j || Nat.beq j i) a' w') → wpAny E.P .any ops Q fuel (listed.setIfInBounds i true) a' w' := fun a' w' h0' h1' => by
     have bim : Nat.beq m i = true ↔ i = m := ⟨fun e => (Nat.eq_of_beq_eq_true e).symm, fun e => by rw [e]; exact Nat.beq_refl m⟩
     refine ih _ a' w' (by simpa using hs) (fun j hj => ?_) (fun j hj e' hej => ?_) ?_ (fun hm => ?_) (fun hm => ?_)
     ·rw [elf]
      simp only [htl j hj, Bool.false_or]
      cases hb : Nat.beq j i with
      | false => rfl
      | true => have := Nat.eq_of_beq_eq_true hb; omega
     ·rw [elf] at hj ⊢
      simp only [Bool.or_eq_true] at hj ⊢
      rcases hj with hj | hj
      ·exact .inl (hc j hj e' hej)
      ·rw [Nat.eq_of_beq_eq_true hj] at hej
       exact .inl (haf e' hej)
     ·rw [elf]
      have := (oB hli (n := ops.size)).2 hlt
      omega
     ·rw [elf] at hm ⊢
      simp only [Bool.or_eq_false_iff] at hm
      exact h0' hm.1 (fun e => by rw [bim.2 e] at hm; exact absurd hm.2 (by simp))
     ·rw [elf] at hm ⊢
      simp only [Bool.or_eq_true] at hm
      exact h1' (hm.imp_right bim.1)
    by_cases him : i = m
    ·subst him
     obtain ⟨hgu, hst⟩ := F.step ops[i] hget
     unfold wpOp
     rw [Array.getElem?_eq_getElem hlt]
     simp only
     have hw : Region.wanted ops[i] (yielded ops a.tmps) = true := by simp [Region.wanted, hgu]
     rw [if_pos hw]
     refine .inl (Oper.wp_mono (fun a' w' h' => ?_) (hst (bB listed) hDl a w (h0 hli) Q))
     refine next a' w' (fun _ hne => absurd rfl hne) fun _ => ?_
     have e : stS ops.toList R1 i st1 (fun j => bB listed j || Nat.beq j i) = stS ops.toList R1 i st1 (bB listed) := kf fun j hj => by
      have : Nat.beq j i = false := by
       cases hb : Nat.beq j i with
       | false => rfl
       | true => have := Nat.eq_of_beq_eq_true hb; omega
      rw [this, Bool.or_false]
     rw [e]
     exact h'
    ·have hi1 : i < m := by omega
     cases hlm : bB listed m with
     | false =>
      have step := wF (Kont := wpAny E.P .any ops Q fuel (listed.setIfInBounds i true)) (Q := Q) F.F0 hi1 hget hli hDl hAl (h0 hlm) fun a' w' h' => next a' w' (fun _ _ => h') fun hm => by
       rcases hm with hm | hm
       ·rw [hlm] at hm; cases hm
       ·exact absurd hm him
      simp only [Array.toArray_toList] at step
      unfold wpOp
      rw [Array.getElem?_eq_getElem hlt]
      simp only
      split
      ·rename_i hw; exact .inl (step.1 hw)
      ·rename_i hw; exact step.2 (by simpa using hw)
     | true =>
      have hnm : inD D i m = false := by
       cases hx : inD D i m with
       | false => rfl
       | true =>
        have := eK T hc (hc m hlm) hx
        rw [hli] at this
        cases this
      have step := t7 (Kont := wpAny E.P .any ops Q fuel (listed.setIfInBounds i true)) (Q := Q) F.B1 hi1 hget hli hDl hAl (Dc (D := D) F.B1.nd F.B1.len F.B1.ob hli (fun j _ h => hDl j h) hAl) (F.out1 i _ hi1 hnm hget) (h1 hlm) fun a' w' h' => next a' w' (fun hm => by rw [hlm] at hm; cases hm) fun _ => h'
      simp only [Array.toArray_toList] at step
      unfold wpOp
      rw [Array.getElem?_eq_getElem hlt]
      simp only
      split
      ·rename_i hw; exact .inl (step.1 hw)
      ·rename_i hw; exact step.2 (by simpa using hw)
theorem AWP.drawFlt (he : E.Ok) {K : Exit → ASt → Prop} {id m : Nat} {D : List (List Nat)} (T : fi ops.toList D m) (F : Flt E S ops.toList D m R0 R1 st0 st1)
  (ht : mV (ops.toList.take m) R1 st1 fun st => pc E S ops.toList (ops.toList.drop (m + 1)) st (K .normal)) : AWP E S (.region id ops true) K st0 := by
 refine ⟨fun a w hs => wp_region_any he.mixed ?_⟩
 have hg : w.grownBy { w with drawn := w.drawn + 1 } none := ⟨rfl, rfl, rfl, Nat.le_refl _, fun b hb _ => rfl⟩
 have e1 : ∀ j, bB (Array.replicate ops.size false) j = false := fun j => by
  simp [bB, Array.getD_eq_getD_getElem?, Array.getElem?_replicate]
  split <;> rfl
 refine B4 (Q := fun e a' w' => ∃ st', cL E.W S st' a' w' ∧ K e st') he T F (fun a w h => h) ht ops.size (Array.replicate ops.size false) a _ (by simp) (fun j _ => e1 j) (fun j hj => ?_) ?_ (fun _ => ?_) (fun hm => ?_)
 ·rw [e1] at hj; cases hj
 ·have : ∀ (lf : Nat → Bool) n, iC lf n ≤ n := fun lf n => by
   induction n with
   | zero => exact Nat.le_refl _
   | succ n ih => simp only [iC]; split <;> omega
  exact this _ _
 ·obtain ⟨Z, ρ, hs⟩ := hs
  have e : stS ops.toList R0 m st0 (bB (Array.replicate ops.size false)) = st0 := by
   have e2 : (List.range m).filterMap (upS ops.toList R0 (bB (Array.replicate ops.size false))) = [] := by
    rw [List.filterMap_eq_nil_iff]; intro j _; simp [upS, e1]
   have e3 : (List.range m).filterMap (obF ops.toList R0 (bB (Array.replicate ops.size false))) = [] := by
    rw [List.filterMap_eq_nil_iff]; intro j _; simp [obF, e1]
   simp [stS, e2, e3, fC]
  rw [e]
  exact ⟨Z, ρ, hs.grow hg (fun _ h => h) fun _ h => .inl h⟩
 ·rw [e1] at hm; cases hm
end
def ko (E : ba) (D : List (List Nat)) (pre : List Oper) (R : List (AV × Option AO)) (st : ASt) (m : Nat) : List Oper → List (AV × Option AO) → Nat → Prop
 | [], [], _ => True
 | o :: ops, r :: rs, i => (match inD D i m with
  | true => True
  | false => CH E D pre R st i o r) ∧ ko E D pre R st m ops rs (i + 1)
 | _, _, _ => False
theorem rR {E : ba} {D : List (List Nat)} {pre : List Oper} {R : List (AV × Option AO)} {st : ASt} {m : Nat} : ∀ {ops : List Oper} {rs : List (AV × Option AO)} {i : Nat}, ko E D pre R st m ops rs i → ∀ k o, ops[k]? = some o → inD D (i + k) m = false → ∃ r, rs[k]? = some r ∧ CH E D pre R st (i + k) o r
 | [], _, _, _, k, o, h, _ => by simp at h
 | o' :: ops, [], _, h, k, o, _, _ => h.elim
 | o' :: ops, r :: rs, i, h, k, o, ho, hn => by
  cases k with
  | zero =>
   simp at ho
   subst ho
   have h1 := h.1
   rw [show i + 0 = i from rfl] at hn
   rw [hn] at h1
   exact ⟨r, rfl, h1⟩
  | succ k =>
   obtain ⟨r', h1, h2⟩ := rR h.2 k o (by simpa using ho) (by rwa [show i + 1 + k = i + (k + 1) by omega])
   exact ⟨r', by simpa using h1, by rwa [show i + (k + 1) = i + 1 + k by omega]⟩
section
variable {E : ba} {S : bt} {ops : List Oper} {D : List (List Nat)} {R0 R1 : List (AV × Option AO)} {m : Nat} {st0 st1 : ASt}
theorem HU (hv : ∀ j, j < m → vAt R1 j = vAt R0 j) (ht : st1.tm = st0.tm) (l : Nat → Bool) : (stS ops R1 m st1 l).tm = (stS ops R0 m st0 l).tm := by
 have e : (List.range m).filterMap (upS ops R1 l) = (List.range m).filterMap (upS ops R0 l) := oE fun j hj => by simp only [upS, hv j (List.mem_range.1 hj)]
 show fC st1.tm ((List.range m).filterMap (upS ops R1 l)) = fC st0.tm ((List.range m).filterMap (upS ops R0 l))
 rw [e, ht]
theorem EW (he : E.Ok) (T : fi ops D m) (F0 : pO E S ops D R0 m st0) (B1 : DBase ops D R1 m st1) {t : TypeId} {jx jv dx dv c k s off : Nat} {o0 o1 : AO}
  (hop : ∃ o, ops[m]? = some o ∧ o.op = .store t (.tmp dx) (.tmp dv) ∧ o.dst = none ∧ o.guard = none) (hdx : dAt ops jx = dx) (hdv : dAt ops jv = dv) (hjx : inD D jx m = true) (hjv : inD D jv m = true)
  (hv : ∀ j, j < m → vAt R1 j = vAt R0 j) (ht : st1.tm = st0.tm) (hvx : vAt R0 jx = .one (.ref c k s off)) (hst : jn E ⟨[], [(c, o0)]⟩ t (.one (.ref c k s off)) (vAt R0 jv) fun st => st = ⟨[], [(c, o1)]⟩)
  (hget : ∀ l : Nat → Bool, (∀ j, inD D j m = true → l j = true) → bg (stS ops R0 m st0 l).ob c = some o0)
  (hsub : ∀ l : Nat → Bool, (∀ j, inD D j m = true → l j = true) → ai (db (stS ops R0 m st0 l).ob c o1) (stS ops R1 m st1 l).ob)
  (hl : R1.length = m) (hf : ko E D (ops.take m) R1 st1 m (ops.take m) R1 0) : Flt E S ops D m R0 R1 st0 st1 := by
 refine ⟨F0, B1, fun i o hi hn ho => ?_, fun o ho => ?_⟩
 ·obtain ⟨r, hr, hfact⟩ := rR hf i o (by rw [List.getElem?_take, if_pos hi]; exact ho) (by rwa [Nat.zero_add])
  rw [Nat.zero_add] at hfact
  exact Gq he T hi hr hfact
 ·obtain ⟨o', ho', hstore, hdst, hgu⟩ := hop
  rw [ho] at ho'
  injection ho' with ho'
  subst ho'
  refine ⟨hgu, fun l hlD a w hs Q => ?_⟩
  obtain ⟨Z, ρ, hs⟩ := hs
  have hjx' : jx < m := oO T T.lt hjx
  have hjv' : jv < m := oO T T.lt hjv
  have g := ud (K := fun st => st = ⟨(stS ops R0 m st0 l).tm, db (stS ops R0 m st0 l).ob c o1⟩) he hs hstore (by
   refine BI (x := vAt R0 jx) (by rw [← hdx]; exact ls F0.nd hjx' (hlD jx hjx) (F0.len jx hjx')) ?_
   refine BI (x := vAt R0 jv) (by rw [← hdv]; exact ls F0.nd hjv' (hlD jv hjv) (F0.len jv hjv')) ?_
   rw [hvx, hdst]
   exact zf (hget l hlD) hst)
  refine Oper.wp_mono (fun a' w' h' => ?_) (g Q)
  obtain ⟨st', h1, h2⟩ := h'
  subst h2
  refine h1.sub ?_ (hsub l hlD)
  rw [HU hv ht]
  exact kk.of_get rfl fun s x y hx hy => by
   rw [hx] at hy
   injection hy with hy
   rw [hy]
   exact .refl _
theorem Ge (he : E.Ok) (T : fi ops D m) (F0 : pO E S ops D R0 m st0) (hlm : yr ops m st0.tm.length = true) {t : TypeId} {jx jv dx dv c k s off : Nat} {o0 o1 : AO}
  (hop : ∃ o, ops[m]? = some o ∧ o.op = .store t (.tmp dx) (.tmp dv) ∧ o.dst = none ∧ o.guard = none) (hdx : dAt ops jx = dx) (hdv : dAt ops jv = dv) (hjx : inD D jx m = true) (hjv : inD D jv m = true)
  (hvx : vAt R0 jx = .one (.ref c k s off)) (hc : bg st0.ob c = some o0) (hst : jn E ⟨[], [(c, o0)]⟩ t (.one (.ref c k s off)) (vAt R0 jv) fun st => st = ⟨[], [(c, o1)]⟩)
  (hno : noB ops D R0 m ⟨st0.tm, db st0.ob c o1⟩ = true)
  (hl : R0.length = m) (hf : ko E D (ops.take m) R0 ⟨st0.tm, db st0.ob c o1⟩ m (ops.take m) R0 0) : Flt E S ops D m R0 R0 st0 ⟨st0.tm, db st0.ob c o1⟩ := by
 have hfar : ∀ j, j < m → oAt R0 j ≠ none → c ≠ dAt ops j := fun j hj hne e => by
  have := F0.ob j hj hne
  rw [← e, hc] at this
  cases this
 refine EW he T F0 (qq T hlm hno) hop hdx hdv hjx hjv (fun _ _ => rfl) rfl hvx hst (fun l _ => ?_) (fun l _ id o ho => ?_) hl hf
 ·rw [fm F0.nd]
  exact .inr ⟨fun j hj _ e => by
   cases ho2 : oAt R0 j with
   | none => rfl
   | some o2 => exact absurd e.symm (hfar j hj (by rw [ho2]; simp)), hc⟩
 ·rw [fm F0.nd] at ho
  rw [bo]
  rcases ho with ⟨j, hj, hlj, e, h⟩ | ⟨h, hb⟩
  ·rw [if_neg (fun e' => hfar j hj (by rw [h]; simp) (by rw [e, e'])), fm F0.nd]
   exact .inl ⟨j, hj, hlj, e, h⟩
  ·have hb : bg (db st0.ob c o1) id = some o := hb
   rw [bo] at hb
   by_cases hci : c = id
   ·rw [if_pos hci] at hb ⊢
    exact hb
   ·rw [if_neg hci] at hb ⊢
    rw [fm F0.nd]
    exact .inr ⟨h, hb⟩
theorem Gd (he : E.Ok) (T : fi ops D m) (F0 : pO E S ops D R0 m st0) (hlm : yr ops m st0.tm.length = true) {t : TypeId} {jx jv j0 dx dv c k s off : Nat} {o0 o1 : AO}
  (hop : ∃ o, ops[m]? = some o ∧ o.op = .store t (.tmp dx) (.tmp dv) ∧ o.dst = none ∧ o.guard = none) (hdx : dAt ops jx = dx) (hdv : dAt ops jv = dv) (hjx : inD D jx m = true) (hjv : inD D jv m = true)
  (hj0 : inD D j0 m = true) (hd0 : dAt ops j0 = c) (ho0 : oAt R0 j0 = some o0)
  (hvx : vAt R0 jx = .one (.ref c k s off)) (hst : jn E ⟨[], [(c, o0)]⟩ t (.one (.ref c k s off)) (vAt R0 jv) fun st => st = ⟨[], [(c, o1)]⟩)
  (hno : noB ops D (R0.set j0 (vAt R0 j0, some o1)) m st0 = true)
  (hl : R0.length = m) (hf : ko E D (ops.take m) (R0.set j0 (vAt R0 j0, some o1)) st0 m (ops.take m) (R0.set j0 (vAt R0 j0, some o1)) 0) : Flt E S ops D m R0 (R0.set j0 (vAt R0 j0, some o1)) st0 st0 := by
 have hj0' : j0 < m := oO T T.lt hj0
 have hv : ∀ j, j < m → vAt (R0.set j0 (vAt R0 j0, some o1)) j = vAt R0 j := fun j hj => by
  by_cases e : j = j0
  ·subst e; exact lC (by omega)
  ·exact ga e
 refine EW he T F0 (qq T hlm hno) hop hdx hdv hjx hjv hv rfl hvx hst (fun l hlD => ?_) (fun l hlD id o ho => ?_) (by simpa using hl) hf
 ·rw [fm F0.nd]
  exact .inl ⟨j0, hj0', hlD j0 hj0, hd0, ho0⟩
 ·rw [fm F0.nd] at ho
  rw [bo]
  rcases ho with ⟨j, hj, hlj, e, h⟩ | ⟨h, hb⟩
  ·by_cases hjj : j = j0
   ·subst hjj
    rw [jr (by omega)] at h
    rw [if_pos (by rw [← hd0, e])]
    exact h
   ·rw [jb hjj] at h
    rw [if_neg (fun e' => hjj (zw F0.nd hj hj0' (by rw [e, hd0, e']))), fm F0.nd]
    exact .inl ⟨j, hj, hlj, e, h⟩
  ·have hne : c ≠ id := fun e => by
    have := h j0 hj0' (hlD j0 hj0) (by rw [hd0, e])
    rw [jr (by omega)] at this
    cases this
   rw [if_neg hne, fm F0.nd]
   refine .inr ⟨fun j hj hlj e => ?_, hb⟩
   have := h j hj hlj e
   by_cases hjj : j = j0
   ·subst hjj
    exact absurd (by rw [← hd0, e]) hne
   ·rwa [jb hjj] at this
end
section
variable {E : ba} {S : bt} {ops : Array Oper}
theorem t5 (he : E.Ok) {st : ASt} {m : Nat} {D FL : List (List Nat)} {K : List (AV × Option AO) → Prop} (hD : iE [] ops.toList = D) (hok : qy ops.toList D m = true) (hfl : ((List.range m).map fun i => (List.range m).map (flP D i)) = FL)
  (h : cP E (ops.toList.take m) st (ops.toList.take m) FL 0 (List.replicate m (.one .dead, none)) K) : ∃ R, K R ∧ ∀ j o, j < m → ops.toList[j]? = some o → ew E S D R m (stP ops.toList D R m st j) j o := by
 have T := kJ hD hok
 have hlen : (ops.toList.take m).length = m := by have := T.le; simp at *; omega
 subst hfl
 have e : ((List.range m).map fun i => (List.range m).map (flP D i)) = ((List.range' 0 (ops.toList.take m).length).map fun i => (List.range m).map (flP D i)) := by rw [hlen, ← List.range_eq_range']
 rw [e] at h
 exact t4 (S := S) he T (ops.toList.take m) 0 (List.replicate m (.one .dead, none)) (fun k => by simp) (by simp) (fun j o hj => absurd hj (Nat.not_lt_zero _)) h
theorem AWP.drawSO (he : E.Ok) {K : Exit → ASt → Prop} (id : Nat) {tm : List AV} {ob : List (Nat × AO)} (m : Nat) (D FL : List (List Nat)) (jx jv : Nat) {t : TypeId} {dx dv : Nat} (hD : iE [] ops.toList = D) (hok : qy ops.toList D m = true) (hfl : ((List.range m).map fun i => (List.range m).map (flP D i)) = FL) (hl : yr ops.toList m tm.length = true)
  (hop : ∃ o, ops.toList[m]? = some o ∧ o.op = .store t (.tmp dx) (.tmp dv) ∧ o.dst = none ∧ o.guard = none) (hdx : dAt ops.toList jx = dx) (hdv : dAt ops.toList jv = dv) (hjx : inD D jx m = true) (hjv : inD D jv m = true)
  (h : cP E (ops.toList.take m) ⟨tm, ob⟩ (ops.toList.take m) FL 0 (List.replicate m (.one .dead, none)) fun R => ∃ c k s off o0 o1, vAt R jx = .one (.ref c k s off) ∧ bg ob c = some o0 ∧ R.length = m ∧ noB ops.toList D R m ⟨tm, ob⟩ = true ∧
   (jn E ⟨[], [(c, o0)]⟩ t (.one (.ref c k s off)) (vAt R jv) fun st => st = ⟨[], [(c, o1)]⟩) ∧ dX c o1 ob fun ob => noB ops.toList D R m ⟨tm, ob⟩ = true ∧ ko E D (ops.toList.take m) R ⟨tm, ob⟩ m (ops.toList.take m) R 0 ∧
   mV (ops.toList.take m) R ⟨tm, ob⟩ fun st => pc E S ops.toList (ops.toList.drop (m + 1)) st (K .normal)) : AWP E S (.region id ops true) K ⟨tm, ob⟩ := by
 have T := kJ hD hok
 obtain ⟨R, ⟨c, k, s, off, o0, o1, hvx, hc, hlR, hno, hst, h1⟩, hf⟩ := t5 (S := S) he hD hok hfl h
 obtain ⟨hno1, hfL, ht⟩ := bX h1
 exact AWP.drawFlt he T (Ge he T ⟨qq T hl hno, hf⟩ hl hop hdx hdv hjx hjv hvx hc hst hno1 hlR hfL) ht
theorem AWP.drawSN (he : E.Ok) {K : Exit → ASt → Prop} (id : Nat) {tm : List AV} {ob : List (Nat × AO)} (m : Nat) (D FL : List (List Nat)) (jx jv j0 : Nat) {t : TypeId} {dx dv : Nat} (hD : iE [] ops.toList = D) (hok : qy ops.toList D m = true) (hfl : ((List.range m).map fun i => (List.range m).map (flP D i)) = FL) (hl : yr ops.toList m tm.length = true)
  (hop : ∃ o, ops.toList[m]? = some o ∧ o.op = .store t (.tmp dx) (.tmp dv) ∧ o.dst = none ∧ o.guard = none) (hdx : dAt ops.toList jx = dx) (hdv : dAt ops.toList jv = dv) (hjx : inD D jx m = true) (hjv : inD D jv m = true) (hj0 : inD D j0 m = true)
  (h : cP E (ops.toList.take m) ⟨tm, ob⟩ (ops.toList.take m) FL 0 (List.replicate m (.one .dead, none)) fun R => ∃ c k s off o0 o1, vAt R jx = .one (.ref c k s off) ∧ oAt R j0 = some o0 ∧ dAt ops.toList j0 = c ∧ R.length = m ∧ noB ops.toList D R m ⟨tm, ob⟩ = true ∧
   (jn E ⟨[], [(c, o0)]⟩ t (.one (.ref c k s off)) (vAt R jv) fun st => st = ⟨[], [(c, o1)]⟩) ∧ iA R j0 (vAt R j0, some o1) fun R => noB ops.toList D R m ⟨tm, ob⟩ = true ∧ ko E D (ops.toList.take m) R ⟨tm, ob⟩ m (ops.toList.take m) R 0 ∧
   mV (ops.toList.take m) R ⟨tm, ob⟩ fun st => pc E S ops.toList (ops.toList.drop (m + 1)) st (K .normal)) : AWP E S (.region id ops true) K ⟨tm, ob⟩ := by
 have T := kJ hD hok
 obtain ⟨R, ⟨c, k, s, off, o0, o1, hvx, ho0, hd0, hlR, hno, hst, h1⟩, hf⟩ := t5 (S := S) he hD hok hfl h
 obtain ⟨hno1, hfL, ht⟩ := fu h1
 exact AWP.drawFlt he T (Gd he T ⟨qq T hl hno, hf⟩ hl hop hdx hdv hjx hjv hj0 hd0 ho0 hvx hst hno1 hlR hfL) ht
end
end Go.Proofs.YtcmknngafflcnaaGreat
namespace Go.Proofs.YtcmknngafflcnaaGreat
open Go.RowKit
def sW : AD → Value
 | .pv v => v
 | _ => undef
def AD.isPv : AD → Bool
 | .pv _ => true
 | _ => false
def AP1.pl : AP1 → Value
 | .one d => sW d
 | .agg ds => .agg (ds.map sW).toArray
def AP1.isPl : AP1 → Bool
 | .one d => d.isPv
 | .agg ds => ds.all AD.isPv
theorem oX {Z : Nat → Prop} {w : World} {d : AD} {u : Value} (h : d.isPv = true) (hr : bC Z w d u) : u = sW d := by
 cases hr with
 | pv => rfl
 | sl => cases h
 | x => cases h
theorem Gx {Z : Nat → Prop} {w : World} {p : AP1} {u : Value} (h : p.isPl = true) (hr : dA Z w p u) : u = p.pl := by
 cases p with
 | one d => exact oX h hr
 | agg ds =>
  obtain ⟨us, rfl, hl, hh⟩ := hr
  have : us = ds.map sW := by
   apply List.ext_getElem?
   intro i
   rw [List.getElem?_map]
   cases hd : ds[i]? with
   | none => rw [List.getElem?_eq_none]; rfl; rw [hl]; exact List.getElem?_eq_none_iff.1 hd
   | some d =>
    have hlt : i < us.length := by rw [hl]; exact (List.getElem?_eq_some_iff.1 hd).1
    rw [List.getElem?_eq_getElem hlt]
    have hp : d.isPv = true := List.all_eq_true.1 h d (List.mem_of_getElem? hd)
    simp [oX hp (hh i d us[i] hd (List.getElem?_eq_getElem hlt))]
  rw [this]
  rfl
end Go.Proofs.YtcmknngafflcnaaGreat
namespace Go.Proofs.YtcmknngafflcnaaGreat
open Go.RowKit
theorem ce {α : Type} {us : List (List α)} {s : Nat} (h : ∀ u ∈ us, u.length = s) : ∀ {k r : Nat} {u : List α}, us[k]? = some u → r < s → us.flatten[k * s + r]? = u[r]? := by
 induction us with
 | nil => intro k r u hu; simp at hu
 | cons x l ih =>
  intro k r u hu hr
  have hx := h x (by simp)
  cases k with
  | zero =>
   simp at hu
   subst hu
   rw [List.flatten_cons, Nat.zero_mul, Nat.zero_add, List.getElem?_append_left (by omega)]
  | succ k =>
   rw [List.flatten_cons, List.getElem?_append_right (by rw [hx, Nat.succ_mul]; omega), hx, show (k + 1) * s + r - s = k * s + r by rw [Nat.succ_mul]; omega]
   exact ih (fun u hu => h u (by simp [hu])) (by simpa using hu) hr
theorem gq {α : Type} {us : List (List α)} {s : Nat} (h : ∀ u ∈ us, u.length = s) : us.flatten.length = us.length * s := by
 induction us with
 | nil => simp
 | cons x l ih => rw [List.flatten_cons, List.length_append, ih fun u hu => h u (by simp [hu]), h x (by simp), List.length_cons, Nat.succ_mul]; omega
inductive bb (w : World) : (Nat → Prop) → AD → Value → Prop
 | pv (P : Nat → Prop) (v : Value) (h1 : v.oneCell' = true) : bb w P (.pv v) v
 | emp (P : Nat → Prop) (A : Option Addr) (cap : Nat) (hm : cap ≤ maxLen) : bb w P (.sl []) (.slice A 0 cap)
 | sl (P : Nat → Prop) (xs : List (List AD)) (e : TypeId) (s : Nat) (us : List (List Value)) (v : Value) (Q : Nat → Nat → Prop)
   (hs : 0 < s) (hl : us.length = xs.length) (hx : ∀ x ∈ xs, x.length = s) (hu : ∀ u ∈ us, u.length = s)
   (hown : w.ownsRow 0 e s v xs.length us.flatten)
   (hb : ∀ b, aZ v = some b → P b ∧ ∀ i, ¬ Q i b) (hQ : ∀ i b, Q i b → P b) (hd : ∀ i j b, Q i b → Q j b → i = j)
   (h : ∀ (i : Nat) a u, xs.flatten[i]? = some a → us.flatten[i]? = some u → bb w (Q i) a u) : bb w P (.sl xs) v
section
variable {w w' : World} {P P' : Nat → Prop} {d : AD} {v : Value}
theorem bb.mono (hp : ∀ b, P b → P' b) (h : bb w P d v) : bb w P' d v := by
 cases h with
 | pv P v h1 => exact .pv _ _ h1
 | emp P A cap hm => exact .emp _ A cap hm
 | sl P xs e s us v Q hs hl hx hu hown hb hQ hd h => exact .sl _ xs e s us _ Q hs hl hx hu hown (fun b e => ⟨hp b (hb b e).1, (hb b e).2⟩) (fun i b q => hp b (hQ i b q)) hd h
theorem bb.keep (h : bb w P d v) (hk : ∀ b, P b → w'.heap[b]? = w.heap[b]?) : bb w' P d v := by
 induction h with
 | pv P v h1 => exact .pv _ v h1
 | emp P A cap hm => exact .emp _ A cap hm
 | sl P xs e s us v Q hs hl hx hu hown hb hQ hd h ih =>
  refine .sl _ xs e s us v Q hs hl hx hu ⟨hown.1, ?_⟩ hb hQ hd fun i a u ha hu => ih i a u ha hu fun b q => hk b (hQ i b q)
  rcases hown.2 with h0 | ⟨g, cap, cur, hv, hbg, hg, r⟩
  ·exact .inl h0
  ·exact .inr ⟨g, cap, cur, hv, hbg, (hk g (hb g (by rw [hv]; rfl)).1).trans hg, r⟩
theorem bb.one (h : bb w P d v) : v.oneCell' = true := by
 cases h with
 | pv P v h1 => exact h1
 | emp P A cap hm => rfl
 | sl P xs e s us v Q hs hl hx hu hown hb hQ hd h => rcases hown.2 with ⟨hv, _⟩ | ⟨g, cap, cur, hv, _⟩ <;> rw [hv] <;> rfl
theorem bb.relD {Z : Nat → Prop} (h : bb w P d v) (hz : ∀ b, P b → Z b) : bC Z w d v := by
 induction h with
 | pv P v h1 => exact .pv v h1
 | emp P A cap hm => exact .sl [] A cap 1 [] (Nat.zero_le _) hm rfl (by simp) (by simp) (.inl rfl) (by simp)
 | sl P xs e s us v Q hs hl hx hu hown hb hQ hd h ih =>
  have key : ∀ (i j : Nat) x u a b, xs[i]? = some x → us[i]? = some u → x[j]? = some a → u[j]? = some b → bC Z w a b := fun i j x u a b h1 h2 h3 h4 => by
   have hj : j < s := by rw [← hx x (List.mem_of_getElem? h1)]; exact (List.getElem?_eq_some_iff.1 h3).1
   exact ih (i * s + j) a b (by rw [ce hx h1 hj]; exact h3) (by rw [ce hu h2 hj]; exact h4) fun b q => hz b (hQ _ b q)
  rcases hown.2 with ⟨hv, hn⟩ | ⟨g, cap, cur, hv, _, hg, h1, h2, h3, h4⟩
  ·have : xs = [] := List.eq_nil_of_length_eq_zero hn
   subst this hv
   exact .sl [] none 0 0 [] (Nat.le_refl _) (Nat.zero_le _) rfl (by simp) (by simp) (.inl rfl) (by simp)
  ·subst hv
   exact .sl xs _ cap s us h1 h2 hl hx hu (.inr ⟨g, 0, rfl, hz g (hb g rfl).1, fun i u hu => by rw [Nat.zero_add]; exact nY hown rfl hu⟩) key
end
def cb (w : World) (P : Nat → Prop) (ds : List AD) (us : List Value) : Prop :=
 us.length = ds.length ∧ ∃ Q : Nat → Nat → Prop, (∀ i b, Q i b → P b) ∧ (∀ i j b, Q i b → Q j b → i = j) ∧ ∀ (i : Nat) a u, ds[i]? = some a → us[i]? = some u → bb w (Q i) a u
section
variable {w w' : World} {P P1 P2 P' : Nat → Prop} {ds d1 d2 : List AD} {us u1 u2 : List Value}
theorem cb.mono (hp : ∀ b, P b → P' b) (h : cb w P ds us) : cb w P' ds us := by
 obtain ⟨l, Q, q, e, r⟩ := h
 exact ⟨l, Q, fun i b h => hp b (q i b h), e, r⟩
theorem cb.keep (h : cb w P ds us) (hk : ∀ b, P b → w'.heap[b]? = w.heap[b]?) : cb w' P ds us := by
 obtain ⟨l, Q, q, e, r⟩ := h
 exact ⟨l, Q, q, e, fun i a u ha hu => (r i a u ha hu).keep fun b h => hk b (q i b h)⟩
theorem cb.nil : cb w P [] [] := ⟨rfl, fun _ _ => False, fun _ _ h => h.elim, fun _ _ _ h => h.elim, fun i a u ha => by simp at ha⟩
theorem cb.append (h1 : cb w P1 d1 u1) (h2 : cb w P2 d2 u2) (hd : ∀ b, P1 b → P2 b → False) (a1 : ∀ b, P1 b → P b) (a2 : ∀ b, P2 b → P b) : cb w P (d1 ++ d2) (u1 ++ u2) := by
 obtain ⟨l1, Q1, q1, e1, r1⟩ := h1
 obtain ⟨l2, Q2, q2, e2, r2⟩ := h2
 refine ⟨by simp [l1, l2], fun i b => if i < d1.length then Q1 i b else Q2 (i - d1.length) b, ?_, ?_, ?_⟩
 ·intro i b h
  split at h
  ·exact a1 b (q1 _ _ h)
  ·exact a2 b (q2 _ _ h)
 ·intro i j b h h'
  split at h <;> split at h'
  ·exact e1 i j b h h'
  ·exact (hd b (q1 _ _ h) (q2 _ _ h')).elim
  ·exact (hd b (q1 _ _ h') (q2 _ _ h)).elim
  ·have := e2 _ _ b h h'
   omega
 ·intro i a u ha hu
  by_cases hi : i < d1.length
  ·rw [List.getElem?_append_left hi] at ha
   rw [List.getElem?_append_left (by omega)] at hu
   simp only [if_pos hi]
   exact r1 i a u ha hu
  ·rw [List.getElem?_append_right (by omega)] at ha
   rw [List.getElem?_append_right (by omega), l1] at hu
   simp only [if_neg hi]
   exact r2 _ a u ha hu
theorem cb.split (h : cb w P (d1 ++ d2) us) : ∃ (u1 u2 : List Value) (P1 P2 : Nat → Prop), us = u1 ++ u2 ∧ (∀ b, P1 b → P2 b → False) ∧ (∀ b, P1 b → P b) ∧ (∀ b, P2 b → P b) ∧ cb w P1 d1 u1 ∧ cb w P2 d2 u2 := by
 obtain ⟨l, Q, q, e, r⟩ := h
 have hl : us.length = d1.length + d2.length := by simpa using l
 refine ⟨us.take d1.length, us.drop d1.length, fun b => ∃ i, i < d1.length ∧ Q i b, fun b => ∃ i, Q (d1.length + i) b, (List.take_append_drop _ _).symm, ?_, ?_, ?_, ⟨by simp; omega, fun i b => i < d1.length ∧ Q i b, ?_, ?_, ?_⟩, ⟨by simp; omega, fun i b => Q (d1.length + i) b, ?_, ?_, ?_⟩⟩
 ·rintro b ⟨i, hi, h1⟩ ⟨j, h2⟩
  have := e _ _ _ h1 h2
  omega
 ·rintro b ⟨i, _, h⟩; exact q _ _ h
 ·rintro b ⟨i, h⟩; exact q _ _ h
 ·rintro i b ⟨hi, h⟩; exact ⟨i, hi, h⟩
 ·rintro i j b ⟨_, h⟩ ⟨_, h'⟩; exact e _ _ _ h h'
 ·intro i a u ha hu
  have hi : i < d1.length := (List.getElem?_eq_some_iff.1 ha).1
  refine (r i a u (by rw [List.getElem?_append_left hi]; exact ha) ?_).mono fun b h => ⟨hi, h⟩
  rw [List.getElem?_take, if_pos hi] at hu
  exact hu
 ·intro i b h; exact ⟨i, h⟩
 ·intro i j b h h'
  have := e _ _ _ h h'
  omega
 ·intro i a u ha hu
  refine r _ a u (by rw [List.getElem?_append_right (by omega)]; simpa using ha) ?_
  rw [List.getElem?_drop] at hu
  exact hu
theorem cb.one {d : AD} {v : Value} (h : bb w P d v) : cb w P [d] [v] := by
 refine ⟨rfl, fun i b => i = 0 ∧ P b, fun i b h => h.2, fun i j b h h' => by omega, fun i a u ha hu => ?_⟩
 cases i with
 | zero => simp at ha hu; subst ha hu; exact h.mono fun b hb => ⟨rfl, hb⟩
 | succ i => simp at ha
theorem cb.get {i : Nat} {a : AD} {u : Value} (h : cb w P ds us) (ha : ds[i]? = some a) (hu : us[i]? = some u) : bb w P a u := by
 obtain ⟨l, Q, q, e, r⟩ := h
 exact (r i a u ha hu).mono fun b h => q i b h
theorem cb.relD {Z : Nat → Prop} (h : cb w P ds us) (hz : ∀ b, P b → Z b) : us.length = ds.length ∧ ∀ (i : Nat) a u, ds[i]? = some a → us[i]? = some u → bC Z w a u := ⟨h.1, fun i a u ha hu => (h.get ha hu).relD hz⟩
end
def Fam (lo hi : Nat) (cs ds : List AD) : Prop :=
 cs.length = ds.length ∧ ∀ (Z : Nat → Prop) (w : World) (us : List Value), us.length = cs.length → (∀ (i : Nat) c u, cs[i]? = some c → us[i]? = some u → bC Z w c u) → cb w (fun b => lo ≤ b ∧ b < hi ∧ Z b) ds us
def AD.isBl : AD → Bool
 | .pv _ => true
 | .sl [] => true
 | _ => false
theorem C9 {Z P : Nat → Prop} {w : World} {d : AD} {u : Value} (hb : d.isBl = true) (h : bC Z w d u) : bb w P d u := by
 cases h with
 | pv _ h1 => exact .pv _ _ h1
 | sl xs A cap s us hc hm hl hx hu hr h =>
  cases xs with
  | nil => exact .emp _ _ _ hm
  | cons x r => cases hb
 | x R _ h1 h => cases hb
theorem Fam.blank {lo hi : Nat} {ds : List AD} (h : ds.all AD.isBl = true) : Fam lo hi ds ds := by
 refine ⟨rfl, fun Z w us hl hr => ⟨hl, fun _ _ => False, fun _ _ h => h.elim, fun _ _ _ h => h.elim, fun i a u ha hu => ?_⟩⟩
 exact C9 (List.all_eq_true.1 h a (List.mem_of_getElem? ha)) (hr i a u ha hu)
theorem Fam.mono {lo hi lo' hi' : Nat} {cs ds : List AD} (h : Fam lo hi cs ds) (h1 : lo' ≤ lo) (h2 : hi ≤ hi') : Fam lo' hi' cs ds :=
 ⟨h.1, fun Z w us hl hr => (h.2 Z w us hl hr).mono fun b hb => ⟨by omega, by omega, hb.2.2⟩⟩
theorem Fam.app {lo m l2 h2 : Nat} {c1 d1 c2 d2 : List AD} (h : Fam lo m c1 d1) (h' : Fam l2 h2 c2 d2) (e1 : m ≤ l2) (e2 : lo ≤ m) (e3 : m ≤ h2) : Fam lo h2 (c1 ++ c2) (d1 ++ d2) := by
 refine ⟨by simp [h.1, h'.1], fun Z w us hl hr => ?_⟩
 have hlen : us.length = c1.length + c2.length := by simpa using hl
 have t1 := h.2 Z w (us.take c1.length) (by simp; omega) fun i c u hc hu => by
  have hi : i < c1.length := (List.getElem?_eq_some_iff.1 hc).1
  rw [List.getElem?_take, if_pos hi] at hu
  exact hr i c u (by rw [List.getElem?_append_left hi]; exact hc) hu
 have t2 := h'.2 Z w (us.drop c1.length) (by simp; omega) fun i c u hc hu => by
  rw [List.getElem?_drop] at hu
  exact hr _ c u (by rw [List.getElem?_append_right (by omega)]; simpa using hc) hu
 have := t1.append (P := fun b => lo ≤ b ∧ b < h2 ∧ Z b) t2 (fun b p q => by omega) (fun b p => ⟨p.1, by omega, p.2.2⟩) fun b p => ⟨by omega, p.2.1, p.2.2⟩
 rwa [List.take_append_drop] at this
theorem Fam.flat_set {lo m l2 h2 : Nat} {cs ds : List (List AD)} {c d : List AD} (h : Fam lo m cs.flatten ds.flatten) (h' : Fam l2 h2 c d) (e1 : m ≤ l2) (e2 : lo ≤ m) (e3 : m ≤ h2) : Fam lo h2 (cs ++ [c]).flatten (ds ++ [d]).flatten := by
 rw [List.flatten_append, List.flatten_append]
 simpa using h.app h' e1 e2 e3
def xI (lo hi : Nat) (w : World) : AP1 → Value → Prop
 | .one d, v => cb w (fun b => lo ≤ b ∧ b < hi) [d] [v]
 | .agg ds, v => ∃ us : List Value, v = .agg us.toArray ∧ cb w (fun b => lo ≤ b ∧ b < hi) ds us
structure bk (E : ba) (f : FuncId) (args : List AP1) (res : AP1) : Prop where
 enter : ∀ (us : Array Value) w, (callFunc f us).run E.P w = .ok (.enter f us) w
 run : ∀ (Z : Nat → Prop) (w : World) (us : List Value), (∀ b, Z b → b < w.heap.size) → GZ E.W Z w → us.length = args.length → (∀ (i : Nat) p u, args[i]? = some p → us[i]? = some u → dA Z w p u) →
  Calls E.P f us.toArray w fun e w' => ∃ v, e = .returned v ∧ Below w.heap.size w w' ∧ xI w.heap.size w'.heap.size w' res v
theorem xI.relP {lo hi : Nat} {w : World} {p : AP1} {v : Value} {Z : Nat → Prop} (h : xI lo hi w p v) (hz : ∀ b, lo ≤ b → b < hi → Z b) : dA Z w p v := by
 cases p with
 | one d => exact (cb.relD h fun b hb => hz b hb.1 hb.2).2 0 d v rfl rfl
 | agg ds =>
  obtain ⟨us, rfl, h⟩ := h
  have := cb.relD h fun b hb => hz b hb.1 hb.2
  exact ⟨us, rfl, this.1, this.2⟩
theorem bk.pcall {E : ba} {f : FuncId} {args : List AP1} {res : AP1} (h : bk E f args res) : ak E f args (.val res) := by
 refine ⟨h.enter, fun Z w us hz hg hl hr => (h.run Z w us hz hg hl hr).mono ?_⟩
 rintro e w' ⟨v, rfl, hb, hv⟩
 exact ⟨v, fun b => Z b ∨ (w.heap.size ≤ b ∧ b < w'.heap.size), rfl, hb, fun b hb => .inl hb, fun b hb => hb, hv.relP fun b h1 h2 => .inr ⟨h1, h2⟩⟩
def Rm (n m : Nat) : (Nat → Prop) → World → Value → Prop := fun Z _ _ => m ≤ n ∨ ∃ k, m = k + 1 ∧ Z k
def cN (n m : Nat) : AO := .frame [.one (.d (.x (Rm n m)))] [.bool true]
theorem oY {Z : Nat → Prop} {w : World} {ρ : Nat → Value} {id n m : Nat} (hρ : ρ id = undef) (h : m ≤ n ∨ ∃ k, m = k + 1 ∧ Z k) : cw Z w ρ id (cN n m) := by
 refine ⟨hρ, rfl, fun i x u hx hu => ?_⟩
 cases i with
 | zero =>
  simp at hx hu
  subst hx hu
  refine .one _ _ (show bC Z w (.x (Rm n m)) (.bool true) from .x _ _ rfl fun Z' w' hz hb => ?_)
  rcases h with h | ⟨k, e, h⟩
  ·exact .inl h
  ·exact .inr ⟨k, e, hz k h⟩
 | succ i => simp at hx
theorem Al {Z : Nat → Prop} {w : World} {ρ : Nat → Value} {id n m : Nat} (h : cw Z w ρ id (cN n m)) : m ≤ n ∨ ∃ k, m = k + 1 ∧ Z k := by
 have := h.2.2 0 _ _ rfl rfl
 cases this with
 | one _ _ h =>
  have h : bC Z w (.x (Rm n m)) (.bool true) := h
  cases h with
  | x R v h1 h => exact h Z w (fun _ h => h) fun _ _ => rfl
theorem WS.reframe {T : World → Prop} {S : bt} {Z : Nat → Prop} {w : World} {ρ : Nat → Value} {ob : List (Nat × AO)} (h : WS T S Z w ρ ob) {id : Nat} {vs : List AV} {us : List Value} (hrel : cw Z w ρ id (.frame vs us)) : WS T S Z w ρ (db ob id (.frame vs us)) := by
 have nob : aZ (ρ id) = none := by rw [hrel.1]; rfl
 refine ⟨h.os, h.tape, h.output, h.size, h.old, h.zlt, fun j o b ho hb => ?_, fun i j oi oj b hi hj hij hbi hbj => ?_, fun j o ho => ?_, ⟨fun j P Q ho => ?_, fun i j P Q P' Q' hi hj => ?_⟩, h.g, h.z0, h.znew⟩
 ·rw [bo] at ho
  split at ho
  ·rename_i e; subst e; rw [nob] at hb; cases hb
  ·exact h.mine j o b ho hb
 ·rw [bo] at hi hj
  split at hi
  ·rename_i e; subst e; rw [nob] at hbi; cases hbi
  ·split at hj
   ·rename_i e; subst e; rw [nob] at hbj; cases hbj
   ·exact h.sep i j oi oj b hi hj hij hbi hbj
 ·rw [bo] at ho
  split at ho
  ·rename_i e; subst e; injection ho with ho; subst ho; exact hrel.up
  ·exact h.obj j o ho
 ·rw [bo] at ho
  split at ho
  ·cases ho
  ·obtain ⟨h1, h2⟩ := h.many.ok j P Q ho
   refine ⟨fun b hb => ⟨(h1 b hb).1, (h1 b hb).2.1, (h1 b hb).2.2.1, fun i o hi hbi => ?_⟩, h2⟩
   rw [bo] at hi
   split at hi
   ·rename_i e; subst e; rw [nob] at hbi; cases hbi
   ·exact (h1 b hb).2.2.2 i o hi hbi
 ·rw [bo] at hi hj
  split at hi
  ·cases hi
  ·split at hj
   ·cases hj
   ·exact h.many.sep i j P Q P' Q' hi hj
def dt (R : Nat → (Nat → Prop) → World → Value → Prop) : Nat → List AD → List AD
 | _, [] => []
 | i, .pv v :: r => .pv v :: dt R (i + 1) r
 | i, _ :: r => .x (R i) :: dt R (i + 1) r
def Az (R : Nat → (Nat → Prop) → World → Value → Prop) : AP1 → AV
 | .one (.pv v) => .one (.d (.pv v))
 | .one _ => .one (.d (.x (R 0)))
 | .agg ds => .agg ((dt R 0 ds).map .d)
def cj : AP1 → List AD
 | .one d => [d]
 | .agg ds => ds
theorem cO (R : Nat → (Nat → Prop) → World → Value → Prop) : ∀ (ds : List AD) (i : Nat), (dt R i ds).length = ds.length
 | [], _ => rfl
 | .pv _ :: r, i => by simp [dt, cO R r]
 | .sl _ :: r, i => by simp [dt, cO R r]
 | .x _ :: r, i => by simp [dt, cO R r]
theorem fU (R : Nat → (Nat → Prop) → World → Value → Prop) : ∀ {ds : List AD} {k i : Nat} {c : AD}, (dt R k ds)[i]? = some c → ∃ d, ds[i]? = some d ∧ ((∃ v, d = .pv v ∧ c = .pv v) ∨ c = .x (R (k + i)))
 | [], _, _, _, h => by simp [dt] at h
 | d :: r, k, 0, c, h => by
  refine ⟨d, rfl, ?_⟩
  cases d with
  | pv v => simp [dt] at h; exact .inl ⟨v, rfl, h.symm⟩
  | sl xs => simp [dt] at h; exact .inr h.symm
  | x R' => simp [dt] at h; exact .inr h.symm
 | d :: r, k, i + 1, c, h => by
  have h' : (dt R (k + 1) r)[i]? = some c := by cases d <;> simpa [dt] using h
  obtain ⟨d', h1, h2⟩ := fU R h'
  refine ⟨d', by simpa using h1, ?_⟩
  rcases h2 with h2 | h2
  ·exact .inl h2
  ·exact .inr (by rw [h2]; congr 2; omega)
section
variable {E : ba} {S : bt}
theorem aa.fresh {f : FuncId} {args : List AV} {tm : List AV} {ob : List (Nat × AO)} {K : AV → ASt → Prop} {ps : List AP1} {res : AP1} {m : Nat} (hc : bk E f ps res) (hps : aRs ob args (· = ps)) (hm : aOb ob 9997 fun o => o = cN S.w0.heap.size m)
  (hk : ∀ R lo hi, m ≤ lo → lo ≤ hi → Fam lo hi (dt R 0 (cj res)) (cj res) → dX 9997 (cN S.w0.heap.size hi) ob fun ob => K (Az R res) ⟨tm, ob⟩) : aa E S f args ⟨tm, ob⟩ K := by
 refine ⟨hc.enter, fun Z ρ a w us hs hl hr => ?_⟩
 obtain ⟨ps', h1, h2, rfl⟩ := fJ hs.ws hl hr hps
 obtain ⟨o, ho, rfl⟩ := bH hm
 have hmark := Al (hs.ws.obj 9997 _ ho)
 have hρ : ρ 9997 = undef := (hs.ws.obj 9997 _ ho).1
 have hmle : m ≤ w.heap.size := by
  rcases hmark with h | ⟨k, e, h⟩
  ·exact Nat.le_trans h hs.ws.size
  ·have := hs.ws.zlt k h; omega
 refine (hc.run (fI Z ρ ob) w us (fI.lt hs.ws) ?_ h1 h2).mono ?_
 ·obtain ⟨w1, g1, g2, g3⟩ := hs.ws.g
  exact ⟨w1, g1, g2, fun b hb => .inl (g3 b hb)⟩
 ·rintro e w' ⟨v, rfl, hb, hv⟩
  have hsz := hb.size
  obtain ⟨us', hf, hvu⟩ : ∃ us', cb w' (fun b => w.heap.size ≤ b ∧ b < w'.heap.size) (cj res) us' ∧ (match res with | .one _ => us' = [v] | .agg _ => v = .agg us'.toArray) := by
   cases res with
   | one d => exact ⟨[v], hv, rfl⟩
   | agg ds => obtain ⟨us', e, h⟩ := hv; exact ⟨us', h, e⟩
  obtain ⟨lF, Q, q, eQ, rQ⟩ := hf
  let R : Nat → (Nat → Prop) → World → Value → Prop := fun i Zx wx u => (∀ b, Q i b → Zx b) ∧ ∃ a, (cj res)[i]? = some a ∧ bb wx (Q i) a u
  let Z' : Nat → Prop := fun b => Z b ∨ (w.heap.size ≤ b ∧ b < w'.heap.size)
  have hg := hs.grow (Z' := Z') (cV hb) (fun b h => .inl h) fun b h => h
  have hcell : ∀ (i : Nat) c u, (dt R 0 (cj res))[i]? = some c → us'[i]? = some u → bC Z' w' c u := by
   intro i c u hc hu
   obtain ⟨d, hd, h⟩ := fU R hc
   have ht := rQ i d u hd hu
   rcases h with ⟨x, rfl, rfl⟩ | h
   ·cases ht with | pv _ _ h1 => exact .pv _ h1
   ·rw [Nat.zero_add] at h
    subst h
    refine .x _ _ ht.one fun Zx wx hzx hbx => ⟨fun b hb => hzx b (.inr (q i b hb)), d, hd, ht.keep fun b hb => hbx b (.inr (q i b hb))⟩
  have hfam : ∀ lo hi : Nat, (∀ b, w.heap.size ≤ b → b < w'.heap.size → lo ≤ b ∧ b < hi) → Fam lo hi (dt R 0 (cj res)) (cj res) := by
   intro lo hi hlh
   refine ⟨cO R _ _, fun Zx wx ux hl hr => ⟨by rw [hl, cO], fun i b => Q i b ∧ Zx b, fun i b h => ?_, fun i j b h h' => eQ i j b h.1 h'.1, fun i a u ha hu => ?_⟩⟩
   ·have := hlh b (q i b h.1).1 (q i b h.1).2
    exact ⟨this.1, this.2, h.2⟩
   ·have hi : i < (dt R 0 (cj res)).length := by rw [cO]; exact (List.getElem?_eq_some_iff.1 ha).1
    obtain ⟨d, hd, h⟩ := fU R (List.getElem?_eq_getElem hi)
    have hrel := hr i _ u (List.getElem?_eq_getElem hi) hu
    rw [ha] at hd
    injection hd with hd
    subst hd
    rcases h with ⟨x, e1, e2⟩ | h
    ·rw [e2] at hrel
     rw [e1]
     cases hrel with | pv _ h1 => exact .pv _ _ h1
    ·rw [h, Nat.zero_add] at hrel
     cases hrel with
     | x _ _ h1 hR =>
      obtain ⟨hz, a', ha', ht⟩ := hR Zx wx (fun _ h => h) fun _ _ => rfl
      rw [ha] at ha'
      injection ha' with ha'
      subst ha'
      exact ht.mono fun b hb => ⟨hb, hz b hb⟩
  have hval : bM Z' w' ρ (Az R res) v := by
   cases res with
   | one d =>
    simp only at hvu
    subst hvu
    cases d with
    | pv x => exact .one _ _ (hcell 0 (.pv x) v rfl rfl)
    | sl xs => exact .one _ _ (hcell 0 (.x (R 0)) v rfl rfl)
    | x R' => exact .one _ _ (hcell 0 (.x (R 0)) v rfl rfl)
   | agg ds =>
    simp only at hvu
    subst hvu
    refine .agg _ us' (by rw [List.length_map, cO]; exact lF) fun i c u hc hu => ?_
    rw [List.getElem?_map] at hc
    obtain ⟨d, hd, rfl⟩ := Option.map_eq_some_iff.1 hc
    exact hcell i d u hd hu
  have fin : ∀ hi : Nat, (hi ≤ S.w0.heap.size ∨ ∃ k, hi = k + 1 ∧ Z' k) → Sim E.W S Z' ρ ⟨tm, db ob 9997 (cN S.w0.heap.size hi)⟩ a w' := fun hi h =>
   ⟨hg.ws.reframe (oY hρ h), hg.len, hg.tm, hg.df⟩
  by_cases hlt : w.heap.size < w'.heap.size
  ·refine ⟨v, _, _, Z', ρ, rfl, fin w'.heap.size (.inr ⟨w'.heap.size - 1, by omega, .inr (by omega)⟩), hval, bX (K := fun ob => K (Az R res) ⟨tm, ob⟩) (hk R w.heap.size w'.heap.size hmle hsz (hfam _ _ fun b h1 h2 => ⟨h1, h2⟩))⟩
  ·refine ⟨v, _, _, Z', ρ, rfl, fin m ?_, hval, bX (K := fun ob => K (Az R res) ⟨tm, ob⟩) (hk R m m (Nat.le_refl _) (Nat.le_refl _) (hfam _ _ fun b h1 h2 => by omega))⟩
   rcases hmark with h | ⟨k, e, h⟩
   ·exact .inl h
   ·exact .inr ⟨k, e, .inl h⟩
def CL (ob : List (Nat × AO)) (n : Nat) (x : AV) (res : AP1) : Prop :=
 match x with
 | .one .nil => res = .one (.sl [])
 | .one (.own id) => aOb ob id fun o => match o with
  | .row _ s xs => ∃ (lo hi : Nat) (ys : List (List AD)), n ≤ lo ∧ Fam lo hi xs.flatten ys.flatten ∧ ys.length = xs.length ∧ (∀ y ∈ ys, y.length = s) ∧ res = .one (.sl ys)
  | _ => False
 | .one (.d c) => ∃ (lo hi : Nat) (d : AD), n ≤ lo ∧ Fam lo hi [c] [d] ∧ res = .one d
 | .agg cs => zh cs fun cs' => ∃ (lo hi : Nat) (ds : List AD), n ≤ lo ∧ Fam lo hi cs' ds ∧ res = .agg ds
 | _ => False
def y7 (E : ba) (st : ASt) (n : Nat) (rs : List ResultVar) (res : AP1) : Prop :=
 match rs with
 | [.tmp t] => aTm st.tm t fun v => CL st.ob n v res
 | [.cell t ty] => aTm st.tm t fun x => pq E st ty x fun v => CL st.ob n v res
 | _ => False
def Kk (E : ba) (rs : List ResultVar) (n : Nat) (res : AP1) : Exit → ASt → Prop
 | .ret, st => y7 E st n rs res
 | .normal, st => y7 E st n rs res
 | _, _ => False
theorem wm {st : ASt} {Z : Nat → Prop} {ρ : Nat → Value} {w : World} (h : WS E.W S Z w ρ st.ob) (hO : ∀ b, ¬ S.O b) {x : AV} {v : Value} {res : AP1} (hv : bM Z w ρ x v) (hk : CL st.ob S.w0.heap.size x res) : xI S.w0.heap.size w.heap.size w res v := by
 have up : ∀ {lo hi : Nat} {ds us}, S.w0.heap.size ≤ lo → cb w (fun b => lo ≤ b ∧ b < hi ∧ Z b) ds us → cb w (fun b => S.w0.heap.size ≤ b ∧ b < w.heap.size) ds us := fun hn hf => hf.mono fun b hb => ⟨by omega, h.zlt b hb.2.2⟩
 unfold CL at hk
 split at hk
 ·subst hk
  cases hv with
  | one _ _ hv =>
   have hv : v = .slice none 0 0 := hv
   subst hv
   exact .one (.emp _ _ _ (Nat.zero_le _))
 ·rename_i id
  obtain ⟨o, ho, hk⟩ := bH hk
  split at hk
  ·rename_i e s xs
   obtain ⟨lo, hi, ys, hn, hf, hyl, hys, rfl⟩ := hk
   obtain ⟨us, h0, hl, hxs, hus, hown, hd⟩ := h.obj id _ ho
   cases hv with
   | one _ _ hv =>
    have hv : v = ρ id := hv.1
    subst hv
    have hlx : xs.flatten.length = xs.length * s := gq hxs
    obtain ⟨lF, Q, q, eQ, rQ⟩ := hf.2 Z w us.flatten (by rw [gq hus, hlx, hl]) fun i c u hc hu => by
     have hi : i < xs.length * s := by rw [← hlx]; exact (List.getElem?_eq_some_iff.1 hc).1
     have hs : 0 < s := h0
     have hdm : i = i / s * s + i % s := (Nat.div_add_mod' i s).symm
     have hr : i % s < s := Nat.mod_lt _ hs
     have hk : i / s < xs.length := Nat.div_lt_of_lt_mul (by rw [Nat.mul_comm]; exact hi)
     rw [hdm, ce hxs (List.getElem?_eq_getElem hk) hr] at hc
     rw [hdm, ce hus (List.getElem?_eq_getElem (by omega)) hr] at hu
     exact hd _ _ _ _ c u (List.getElem?_eq_getElem hk) (List.getElem?_eq_getElem (by omega)) hc hu
    refine .one (.sl _ ys e s us _ Q h0 (by rw [hl, hyl]) hys hus (by rw [hyl]; exact hown) (fun b hb => ?_) (fun i b hb => ⟨by have := (q i b hb).1; omega, h.zlt b (q i b hb).2.2⟩) eQ rQ)
    have hm := h.mine id _ b ho hb
    exact ⟨⟨hm.2.resolve_right (hO b), h.lt ho hb⟩, fun i hq => hm.1 (q i b hq).2.2⟩
  ·exact hk.elim
 ·obtain ⟨lo, hi, d, hn, hf, rfl⟩ := hk
  cases hv with
  | one _ _ hv =>
   refine up hn (hf.2 Z w [v] rfl fun i c' u hc hu => ?_)
   cases i with
   | zero => simp at hc hu; subst hc hu; exact hv
   | succ i => simp at hc
 ·rename_i cs
  obtain ⟨cs', hk, hl', hr'⟩ := iB hk
  obtain ⟨lo, hi, ds, hn, hf, rfl⟩ := hk
  cases hv with
  | agg _ us hl hr =>
   refine ⟨us, rfl, up hn (hf.2 Z w us (by rw [hl, hl']) fun i c u hc hu => ?_)⟩
   have hi : i < cs.length := by rw [← hl']; exact (List.getElem?_eq_some_iff.1 hc).1
   exact hr' i c cs[i] u hc (List.getElem?_eq_getElem hi) (hr i _ u (List.getElem?_eq_getElem hi) hu)
 ·exact hk.elim
theorem Do {st : ASt} (he : E.Ok) {Z : Nat → Prop} {ρ : Nat → Value} {a : Act} {w : World} (h : Sim E.W S Z ρ st a w) (hO : ∀ b, ¬ S.O b) {fn : Func} {res : AP1} (hk : y7 E st S.w0.heap.size fn.results.toList res) :
  ∃ v, (results fn a.tmps).run E.P w = .ok v w ∧ xI S.w0.heap.size w.heap.size w res v := by
 have hres : ∀ vs : List Value, (fn.results.toList.mapM (cU a.tmps)).run E.P w = .ok vs w → (results fn a.tmps).run E.P w = .ok (if h : vs.toArray.size = 1 then vs.toArray[0] else .tuple vs.toArray) w := by
  intro vs hvs
  have e : results fn a.tmps = (do let vs ← fn.results.mapM (cU a.tmps); pure (if h : vs.size = 1 then vs[0] else .tuple vs)) := rfl
  rw [e, Sem.run_bind, Array.mapM_eq_mapM_toList, Sem.run_map, hvs]
  rfl
 unfold y7 at hk
 split at hk
 ·rename_i t hr
  obtain ⟨x, hx, hk⟩ := fK hk
  have hlt : t < a.tmps.size := by rw [h.len]; exact (List.getElem?_eq_some_iff.1 hx).1
  have hp := wm h.ws hO (h.tm t x _ hx (Array.getElem?_eq_getElem hlt)) hk
  have h1 : (cU a.tmps (.tmp t)).run E.P w = .ok a.tmps[t] w := by simp [cU, hlt]
  have := hres [a.tmps[t]] (by rw [hr, List.mapM_cons, Sem.run_bind, h1]; rfl)
  exact ⟨a.tmps[t], this, hp⟩
 ·rename_i t ty hr
  obtain ⟨x, hx, hk⟩ := fK hk
  have hlt : t < a.tmps.size := by rw [h.len]; exact (List.getElem?_eq_some_iff.1 hx).1
  obtain ⟨b, off, v, y, e, hrl, hy, hk⟩ := nU he h (h.tm t x _ hx (Array.getElem?_eq_getElem hlt)) hk
  have hp := wm h.ws hO hy hk
  have h1 : (cU a.tmps (.cell t ty)).run E.P w = .ok v w := by simp [cU, hlt, e, asAddr, hrl]
  have := hres [v] (by rw [hr, List.mapM_cons, Sem.run_bind, h1]; rfl)
  exact ⟨v, this, hp⟩
 ·exact hk.elim
theorem bj (he : E.Ok) {f : FuncId} {fn : Func} {c : Code} {n : Nat} {rs : List ResultVar} {args : List AP1} {res : AP1} (hf : E.P.funcs[f]? = some fn) (hb : fn.body = some c)
  (enter : ∀ (us : Array Value) w, (callFunc f us).run E.P w = .ok (.enter f us) w) (hn : fn.ntmps = n) (hrs : fn.results.toList = rs)
  (h : ∀ S : bt, y0 args n fun tm => AWP E S c (Kk E rs S.w0.heap.size res) ⟨tm, [(9997, cN S.w0.heap.size S.w0.heap.size)]⟩) : bk E f args res := by
 refine ⟨enter, fun Z w us hz hg hl hr => ?_⟩
 subst hn hrs
 obtain ⟨hle, hk⟩ := oq (h ⟨w, fun _ => False, Z⟩)
 have hs : Sim E.W ⟨w, fun _ => False, Z⟩ Z (fun _ => undef) ⟨args.map AP1.v ++ List.replicate (fn.ntmps - args.length) (.one .und), [(9997, cN w.heap.size w.heap.size)]⟩ { tmps := us.toArray ++ Array.replicate (fn.ntmps - us.toArray.size) undef, defers := [] } w := by
  have hw0 : WS E.W ⟨w, fun _ => False, Z⟩ Z w (fun _ => undef) [] := ⟨rfl, rfl, rfl, Nat.le_refl _, fun _ _ _ => rfl, hz, fun id o b ho _ => (by cases ho), fun i j oi oj b hi _ _ _ _ => (by cases hi), fun id o ho => (by cases ho), hE.nil, hg, fun b hb => hb, fun b hb => .inl hb⟩
  refine ⟨hw0.reframe (id := 9997) (oY rfl (.inl (Nat.le_refl _))), by simp [hl], fun i x v hx hv => ?_, rfl⟩
  simp only at hx hv
  have hv' : (us ++ List.replicate (fn.ntmps - us.length) undef)[i]? = some v := by
   have := hv
   rw [← Array.getElem?_toList] at this
   simpa using this
  by_cases hi : i < us.length
  ·rw [List.getElem?_append_left (by simpa [hl] using hi), List.getElem?_map] at hx
   obtain ⟨p, hp, rfl⟩ := Option.map_eq_some_iff.1 hx
   rw [List.getElem?_append_left hi] at hv'
   exact (hr i p v hp hv').v
  ·rw [List.getElem?_append_right (by simp; omega)] at hx
   rw [List.getElem?_append_right (by omega)] at hv'
   have e1 := List.eq_of_mem_replicate (List.mem_of_getElem? hx)
   have e2 := List.eq_of_mem_replicate (List.mem_of_getElem? hv')
   subst e1 e2
   exact .one _ _ (show eh Z w (fun _ => undef) .und undef from rfl)
 refine calls_of_wp hf hb (wp_mono (hk.run _ w ⟨Z, _, hs⟩) fun e a' w' h' => ?_)
 obtain ⟨st', ⟨Z', ρ', hs'⟩, hk'⟩ := h'
 have fin : y7 E st' w.heap.size fn.results.toList res → a'.defers = [] ∧ ∃ v, (results fn a'.tmps).run E.P w' = .ok v w' ∧ ∃ v0, Ending.returned v = .returned v0 ∧ Below w.heap.size w w' ∧ xI w.heap.size w'.heap.size w' res v0 := by
  intro hr
  obtain ⟨v, h1, h2⟩ := Do he hs' (fun b h => h) hr
  exact ⟨hs'.df, v, h1, v, rfl, ⟨hs'.ws.os, hs'.ws.tape, hs'.ws.output, hs'.ws.size, fun b hb => hs'.ws.old b hb (fun h => h)⟩, h2⟩
 cases e with
 | normal => exact fin hk'
 | ret => exact fin hk'
 | _ => exact hk'.elim
end
end Go.Proofs.YtcmknngafflcnaaGreat
namespace Go.Proofs.YtcmknngafflcnaaGreat
open Go.RowKit
structure bN (P : Nat → Prop) (w w' : World) : Prop where
 os : w'.os = w.os
 tape : w'.tape = w.tape
 output : w'.output = w.output
 size : w'.heap.size = w.heap.size
 block : ∀ b, ¬ P b → w'.heap[b]? = w.heap[b]?
section
variable {P P' : Nat → Prop} {w w1 w' : World}
theorem bN.refl (P : Nat → Prop) (w : World) : bN P w w := ⟨rfl, rfl, rfl, rfl, fun _ _ => rfl⟩
theorem bN.trans (h : bN P w w1) (h' : bN P w1 w') : bN P w w' := ⟨h'.os.trans h.os, h'.tape.trans h.tape, h'.output.trans h.output, h'.size.trans h.size, fun b hb => (h'.block b hb).trans (h.block b hb)⟩
theorem bN.mono (h : bN P w w') (hp : ∀ b, P b → P' b) : bN P' w w' := ⟨h.os, h.tape, h.output, h.size, fun b hb => h.block b fun hq => hb (hp b hq)⟩
theorem bN.setCell {a : Addr} (ha : P a.block) (u : Value) : bN P w (w.setCell a u) := ⟨rfl, rfl, rfl, by simp [World.setCell], fun b hb => Below.heap_setCell _ _ _ _ (fun e => hb (e ▸ ha))⟩
theorem bN.below {B : Nat} (h : bN P w w') (hp : ∀ b, P b → B ≤ b) : Below B w w' := ⟨h.os, h.tape, h.output, by rw [h.size]; exact Nat.le_refl _, fun k hk => h.block k fun hq => by have := hp k hq; omega⟩
end
theorem cb.set {w : World} {P : Nat → Prop} {x : List AD} {us : List Value} (h : cb w P x us) {c : Nat} {u : Value} (h1 : u.oneCell' = true) : cb w P (x.set c (.pv u)) (us.set c u) := by
 obtain ⟨l, Q, q, e, r⟩ := h
 refine ⟨by simp [l], Q, q, e, fun i a y ha hy => ?_⟩
 rw [List.getElem?_set] at ha hy
 by_cases hi : c = i
 ·subst hi
  simp only [if_true] at ha hy
  split at ha
  ·split at hy
   ·injection ha with ha; injection hy with hy; subst ha hy; exact .pv _ _ h1
   ·cases hy
  ·cases ha
 ·rw [if_neg hi] at ha hy
  exact r i a y ha hy
structure El (w0 : World) (b o s : Nat) (Q : Nat → Prop) (w : World) (x : List AD) (us : List Value) : Prop where
 len : us.length = s
 fam : cb w Q x us
 cell : ∀ (c : Nat) u, us[c]? = some u → w.cell? ⟨b, o + c, none⟩ = some u
 oth : ∀ o', (o' < o ∨ o + s ≤ o') → w.cell? ⟨b, o', none⟩ = w0.cell? ⟨b, o', none⟩
 row : ∃ cur cur' t, w0.heap[b]? = some (.cells cur t (0, 0)) ∧ w.heap[b]? = some (.cells cur' t (0, 0)) ∧ cur'.size = cur.size
 turn : bN (fun g => g = b ∨ Q g) w0 w
 nb : ¬ Q b
section
variable {w0 w : World} {b o s : Nat} {Q : Nat → Prop} {x : List AD} {us : List Value}
theorem El.frozen (h : El w0 b o s Q w x us) (o' : Nat) : w.frozen? ⟨b, o', none⟩ = false := by
 obtain ⟨cur, cur', t, _, h2, _⟩ := h.row
 simp [World.frozen?, h2]
theorem El.set (h : El w0 b o s Q w x us) {c : Nat} (hc : c < s) (u : Value) (h1 : u.oneCell' = true) : El w0 b o s Q (w.setCell ⟨b, o + c, none⟩ u) (x.set c (.pv u)) (us.set c u) := by
 have hlt : c < us.length := by rw [h.len]; exact hc
 obtain ⟨cur, cur', t, r1, r2, r3⟩ := h.row
 refine ⟨by simp [h.len], ?_, fun c' y hy => ?_, fun o' ho => ?_, ⟨cur, cur'.setIfInBounds (o + c) u, t, r1, by simp [World.setCell, Array.getElem?_modify, r2], by simp [r3]⟩, h.turn.trans (bN.setCell (.inl rfl) u), h.nb⟩
 ·exact cb.set (h.fam.keep fun g hg => Below.heap_setCell w ⟨b, o + c, none⟩ u g (fun e => h.nb (by have e2 : g = b := e; subst e2; exact hg))) h1
 ·rw [List.getElem?_set] at hy
  by_cases hcc : c = c'
  ·subst hcc
   rw [if_pos rfl, if_pos hlt] at hy
   injection hy with hy
   subst hy
   exact World.cell?_setCell_same _ _ _ (h.cell c _ (List.getElem?_eq_getElem hlt))
  ·rw [if_neg hcc] at hy
   exact (World.cell?_setCell_other _ _ _ _ (by intro e; injection e; omega)).trans (h.cell c' y hy)
 ·exact (World.cell?_setCell_other _ _ _ _ (by intro e; injection e; omega)).trans (h.oth o' ho)
theorem El.sub (h : El w0 b o s Q w x us) {c : Nat} {a : AD} {u : Value} (ha : x[c]? = some a) (hu : us[c]? = some u) :
  ∃ Qc, (∀ g, Qc g → Q g) ∧ bb w Qc a u ∧ ∀ w' a', bN Qc w w' → bb w' Qc a' u → El w0 b o s Q w' (x.set c a') us := by
 obtain ⟨l, R, q, e, r⟩ := h.fam
 refine ⟨R c, q c, r c a u ha hu, fun w' a' ht hr => ?_⟩
 have hb : w'.heap[b]? = w.heap[b]? := ht.block b fun hq => h.nb (q c b hq)
 have hcell : ∀ o', w'.cell? ⟨b, o', none⟩ = w.cell? ⟨b, o', none⟩ := fun o' => World.cell?_of_block (a := ⟨b, o', none⟩) hb
 obtain ⟨cur, cur', t, r1, r2, r3⟩ := h.row
 refine ⟨h.len, ⟨by simp [l], R, q, e, fun i a2 y h1 h2 => ?_⟩, fun c' y hy => (hcell _).trans (h.cell c' y hy), fun o' ho => (hcell _).trans (h.oth o' ho), ⟨cur, cur', t, r1, hb.trans r2, r3⟩, h.turn.trans (ht.mono fun g hg => .inr (q c g hg)), h.nb⟩
 rw [List.getElem?_set] at h1
 by_cases hi : c = i
 ·subst hi
  rw [hu] at h2
  injection h2 with h2
  subst h2
  rw [if_pos rfl] at h1
  split at h1
  ·injection h1 with h1; subst h1; exact hr
  ·cases h1
 ·rw [if_neg hi] at h1
  exact (r i a2 y h1 h2).keep fun g hg => ht.block g fun hq => hi (e _ _ g hq hg)
end
theorem bb.lens {w : World} {P : Nat → Prop} {xs : List (List AD)} {v : Value} (h : bb w P (.sl xs) v) {j : Nat} {x : List AD} (hj : xs[j]? = some x) :
  ∃ (b off cap : Nat) (us : List Value) (Q : Nat → Prop), v = .slice (some ⟨b, off, none⟩) xs.length cap ∧ P b ∧ (∀ g, Q g → P g) ∧ El w b (off + j * x.length) x.length Q w x us ∧
   ∀ w' x' us', El w b (off + j * x.length) x.length Q w' x' us' → bb w' P (.sl (xs.set j x')) v := by
 have hjl : j < xs.length := (List.getElem?_eq_some_iff.1 hj).1
 cases h with
 | emp P A cap hm => simp at hj
 | sl P xs e s us v R hs hl hx hu hown hb hQ hd hh =>
  have hxs : x.length = s := hx x (List.mem_of_getElem? hj)
  have hju : j < us.length := by omega
  have hus : us[j].length = s := hu _ (List.getElem_mem hju)
  rcases hown.2 with ⟨_, hn⟩ | ⟨g, cap, cur, rfl, _, hg, h1, h2, h3, h4⟩
  ·omega
  have hfl : us.flatten.length = us.length * s := gq hu
  have hcell : ∀ (i : Nat) y, us.flatten[i]? = some y → w.cell? ⟨g, i, none⟩ = some y := fun i y hy => nY hown rfl hy
  rw [hxs]
  refine ⟨g, 0, cap, us[j], fun b => ∃ r, r < s ∧ R (j * s + r) b, rfl, (hb g rfl).1, fun b ⟨r, _, hr⟩ => hQ _ b hr, ⟨hus, ⟨by rw [hus, hxs], fun r b => r < s ∧ R (j * s + r) b, fun r b hr => ⟨r, hr⟩, fun i i' b p q => by have := hd _ _ b p.2 q.2; omega, fun r a y ha hy => ?_⟩, fun c y hy => ?_, fun _ _ => rfl, ⟨cur, cur, e, hg, hg, rfl⟩, bN.refl _ _, fun ⟨r, _, hr⟩ => (hb g rfl).2 _ hr⟩, fun w' x' us' hel => ?_⟩
  ·have hr : r < s := by rw [← hxs]; exact (List.getElem?_eq_some_iff.1 ha).1
   exact (hh (j * s + r) a y (by rw [ce hx hj hr]; exact ha) (by rw [ce hu (List.getElem?_eq_getElem hju) hr]; exact hy)).mono fun b hb => ⟨hr, hb⟩
  ·have hr : c < s := by rw [← hus]; exact (List.getElem?_eq_some_iff.1 hy).1
   rw [Nat.zero_add]
   exact hcell _ _ (by rw [ce hu (List.getElem?_eq_getElem hju) hr]; exact hy)
  ·obtain ⟨c1, c2, t, r1, r2, r3⟩ := hel.row
   rw [hg] at r1
   injection r1 with r1
   injection r1 with e1 e2 e3
   subst e1 e2
   obtain ⟨lF, R', q', d', f'⟩ := hel.fam
   have hx' : x'.length = s := by rw [← lF, hel.len]
   have hx2 : ∀ y ∈ xs.set j x', y.length = s := fun y hy => by rcases List.mem_or_eq_of_mem_set hy with hy | rfl; exact hx y hy; exact hx'
   have hu2 : ∀ y ∈ us.set j us', y.length = s := fun y hy => by rcases List.mem_or_eq_of_mem_set hy with hy | rfl; exact hu y hy; exact hel.len
   have hl2 : (us.set j us').flatten.length = us.length * s := by rw [gq hu2, List.length_set]
   have hc2 : ∀ i : Nat, i < us.length * s → w'.cell? ⟨g, i, none⟩ = (us.set j us').flatten[i]? := by
    intro i hi
    have hdm : i = i / s * s + i % s := (Nat.div_add_mod' i s).symm
    have hr : i % s < s := Nat.mod_lt _ hs
    have hk : i / s < us.length := Nat.div_lt_of_lt_mul (by rw [Nat.mul_comm]; exact hi)
    by_cases hij : i / s = j
    ·have e1 : (us.set j us')[i / s]? = some us' := by rw [hij]; simp [hju]
     obtain ⟨y, hy⟩ : ∃ y, us'[i % s]? = some y := ⟨_, List.getElem?_eq_getElem (by rw [hel.len]; exact hr)⟩
     have h5 := hel.cell (i % s) y hy
     rw [Nat.zero_add, ← hij, ← hdm] at h5
     rw [h5]
     conv => rhs; rw [hdm]
     rw [ce hu2 e1 hr, hy]
    ·have e1 : (us.set j us')[i / s]? = some us[i / s] := by rw [List.getElem?_set_ne (fun e => hij e.symm)]; exact List.getElem?_eq_getElem hk
     have hne : i < 0 + j * s ∨ 0 + j * s + s ≤ i := by
      rcases Nat.lt_or_gt_of_ne hij with h | h
      ·left
       have : (i / s + 1) * s ≤ j * s := Nat.mul_le_mul_right s h
       rw [Nat.add_mul] at this
       omega
      ·right
       have : (j + 1) * s ≤ i / s * s := Nat.mul_le_mul_right s h
       rw [Nat.add_mul] at this
       omega
     rw [hel.oth i hne]
     have h5 := hcell i us.flatten[i] (List.getElem?_eq_getElem (by rw [hfl]; exact hi))
     rw [h5, ← List.getElem?_eq_getElem (by rw [hfl]; exact hi)]
     conv => lhs; rw [hdm]
     conv => rhs; rw [hdm]
     rw [ce hu2 e1 hr, ce hu (List.getElem?_eq_getElem hk) hr]
   have hown' : w'.ownsRow 0 e s (.slice (some ⟨g, 0, none⟩) xs.length cap) (xs.set j x').length (us.set j us').flatten := by
    refine ⟨by rw [hl2, hl, List.length_set], .inr ⟨g, cap, c2, by rw [List.length_set], Nat.zero_le _, r2, by rw [List.length_set]; exact h1, h2, by rw [r3]; exact h3, ?_⟩⟩
    apply List.ext_getElem?
    intro i
    rw [List.getElem?_take, List.length_set]
    by_cases hi : i < xs.length * s
    ·rw [if_pos hi, ← hc2 i (by rw [hl]; exact hi), cell_of_row w' g i c2 e (0, 0) r2, Array.getElem?_toList]
    ·rw [if_neg hi, List.getElem?_eq_none (by rw [hl2, hl]; omega)]
   have := bb.sl (w := w') P (xs.set j x') e s (us.set j us') (.slice (some ⟨g, 0, none⟩) xs.length cap) (fun i b => if j * s ≤ i ∧ i < j * s + s then R' (i - j * s) b else R i b) hs (by simp [hl]) hx2 hu2 hown' ?_ ?_ ?_ ?_
   ·exact this
   ·intro b hbb
    refine ⟨(hb b hbb).1, fun i hi => ?_⟩
    split at hi
    ·obtain ⟨r, _, hr⟩ := q' _ b hi
     exact (hb b hbb).2 _ hr
    ·exact (hb b hbb).2 _ hi
   ·intro i b hi
    split at hi
    ·obtain ⟨r, _, hr⟩ := q' _ b hi
     exact hQ _ b hr
    ·exact hQ _ b hi
   ·intro i i' b hi hi'
    split at hi <;> split at hi'
    ·have := d' _ _ b hi hi'; omega
    ·obtain ⟨r, hr0, hr⟩ := q' _ b hi
     have := hd _ _ b hr hi'; omega
    ·obtain ⟨r, hr0, hr⟩ := q' _ b hi'
     have := hd _ _ b hr hi; omega
    ·exact hd _ _ b hi hi'
   ·intro i a y ha hy
    have hi : i < xs.length * s := by
     have := (List.getElem?_eq_some_iff.1 ha).1
     rwa [gq hx2, List.length_set] at this
    have hdm : i = i / s * s + i % s := (Nat.div_add_mod' i s).symm
    have hr : i % s < s := Nat.mod_lt _ hs
    have hk : i / s < xs.length := Nat.div_lt_of_lt_mul (by rw [Nat.mul_comm]; exact hi)
    by_cases hij : i / s = j
    ·have e1 : (us.set j us')[i / s]? = some us' := by rw [hij]; simp [hju]
     have e2 : (xs.set j x')[i / s]? = some x' := by rw [hij]; simp [hjl]
     rw [hdm, ce hx2 e2 hr] at ha
     rw [hdm, ce hu2 e1 hr] at hy
     have hin : j * s ≤ i ∧ i < j * s + s := by rw [← hij]; omega
     simp only [if_pos hin]
     rw [show i - j * s = i % s by rw [← hij]; omega]
     exact f' _ a y ha hy
    ·have hne : ¬ (j * s ≤ i ∧ i < j * s + s) := by
      rcases Nat.lt_or_gt_of_ne hij with h | h
      ·have : (i / s + 1) * s ≤ j * s := Nat.mul_le_mul_right s h
       rw [Nat.add_mul] at this
       omega
      ·have : (j + 1) * s ≤ i / s * s := Nat.mul_le_mul_right s h
       rw [Nat.add_mul] at this
       omega
     have e1 : (us.set j us')[i / s]? = some us[i / s] := by rw [List.getElem?_set_ne (fun e => hij e.symm)]; exact List.getElem?_eq_getElem (by omega)
     have e2 : (xs.set j x')[i / s]? = some xs[i / s] := by rw [List.getElem?_set_ne (fun e => hij e.symm)]; exact List.getElem?_eq_getElem hk
     rw [hdm, ce hx2 e2 hr, ← ce hx (List.getElem?_eq_getElem hk) hr, ← hdm] at ha
     rw [hdm, ce hu2 e1 hr, ← ce hu (List.getElem?_eq_getElem (by omega)) hr, ← hdm] at hy
     simp only [if_neg hne]
     refine (hh i a y ha hy).keep fun b hRb => hel.turn.block b ?_
     rintro (rfl | ⟨r, hr0, hr'⟩)
     ·exact (hb _ rfl).2 _ hRb
     ·have := hd _ _ b hRb hr'
      omega
theorem bb.form {w : World} {P : Nat → Prop} {xs : List (List AD)} {v : Value} (h : bb w P (.sl xs) v) : ∃ A cap, v = .slice A xs.length cap ∧ xs.length ≤ cap ∧ cap ≤ maxLen := by
 cases h with
 | emp P A cap hm => exact ⟨A, cap, rfl, Nat.zero_le _, hm⟩
 | sl P xs e s us v Q hs hl hx hu hown hb hQ hd h =>
  rcases hown.2 with ⟨hv, hn⟩ | ⟨g, cap, cur, hv, _, hg, h1, h2, h3, h4⟩
  ·exact ⟨none, 0, by rw [hv, hn], by omega, Nat.zero_le _⟩
  ·exact ⟨_, cap, hv, h1, h2⟩
def fH (k : Int) (P : Nat → Prop) (w : World) (G : World → Prop) (e : Ending) (w' : World) : Prop := e = .returned (.int .i64 k) ∧ bN P w w' ∧ G w'
def mI (k : Int) (_ : Int) : Int := k
def mB (k : Int) (_ : Bool) : Bool := k % 3 == 0
def cI {α : Type} (_ : α) : Int := 1
section
variable {α : Type} {mk : Int → α → α} {cnt : α → Int}
def mkL (mk : Int → α → α) (cnt : α → Int) : Int → List α → List α
 | _, [] => []
 | k, a :: r => mk k a :: mkL mk cnt (k + cnt a) r
def ao (cnt : α → Int) : List α → Int
 | [] => 0
 | a :: r => cnt a + ao cnt r
theorem bE : ∀ (l : List α) (k : Int), (mkL mk cnt k l).length = l.length
 | [], _ => rfl
 | a :: r, k => by simp [mkL, bE r]
theorem wD : ∀ (l : List α) (a : α), ao cnt (l ++ [a]) = ao cnt l + cnt a
 | [], a => by simp [ao]
 | b :: r, a => by simp only [List.cons_append, ao, wD r]; omega
theorem vN {l : List α} {k : Nat} (hk : k < l.length) : l.take (k + 1) = l.take k ++ [l[k]] := by rw [List.take_add_one, List.getElem?_eq_getElem hk]; rfl
theorem aB {l : List α} {k : Nat} (hk : k < l.length) : ao cnt (l.take (k + 1)) = ao cnt (l.take k) + cnt l[k] := by
 rw [vN hk, wD]
theorem rX : ∀ (l l' : List α), ao cnt (l ++ l') = ao cnt l + ao cnt l'
 | [], l' => by simp [ao]
 | b :: r, l' => by simp only [List.cons_append, ao, rX r]; omega
theorem am (h : ∀ a, 0 ≤ cnt a) : ∀ (l : List α), 0 ≤ ao cnt l
 | [] => by simp [ao]
 | b :: r => by have := am h r; have := h b; simp only [ao]; omega
theorem aO (h : ∀ a, 0 ≤ cnt a) (l : List α) (k : Nat) : ao cnt (l.take k) ≤ ao cnt l := by
 have e : ao cnt l = ao cnt (l.take k) + ao cnt (l.drop k) := by rw [← rX, List.take_append_drop]
 have := am h (l.drop k)
 omega
theorem Ar : ∀ (l : List α) (a : α) (k : Int), mkL mk cnt k (l ++ [a]) = mkL mk cnt k l ++ [mk (k + ao cnt l) a]
 | [], a, k => by simp [mkL, ao]
 | b :: r, a, k => by simp only [List.cons_append, mkL, Ar r, ao]; rw [Int.add_assoc]
theorem C3 : ∀ (l : List α) (k0 : Int) {k : Nat} (hk : k < l.length), (mkL mk cnt k0 l)[k]'(by rw [bE]; exact hk) = mk (k0 + ao cnt (l.take k)) l[k]
 | [], _, k, hk => absurd hk (Nat.not_lt_zero _)
 | a :: r, k0, 0, _ => by simp [mkL, ao]
 | a :: r, k0, k + 1, hk => by
  have := C3 r (k0 + cnt a) (k := k) (by simpa using hk)
  simp only [mkL, List.getElem_cons_succ, List.take_succ_cons, ao]
  rw [this, Int.add_assoc]
def mkP (mk : Int → α → α) (cnt : α → Int) (k0 : Int) (j : Nat) (l : List α) : List α := mkL mk cnt k0 (l.take j) ++ l.drop j
theorem dp (k0 : Int) (l : List α) : mkP mk cnt k0 0 l = l := by simp [mkP, mkL]
theorem et (k0 : Int) (l : List α) : mkP mk cnt k0 l.length l = mkL mk cnt k0 l := by simp [mkP]
theorem fS {β : Type} (f : α → β) (k0 : Int) {j : Nat} {l : List α} (hj : j < l.length) : ((mkP mk cnt k0 j l).map f)[j]? = some (f l[j]) := by
 rw [List.getElem?_map]
 simp only [mkP]
 rw [List.getElem?_append_right (by rw [bE, List.length_take]; omega), bE, List.length_take, List.getElem?_drop]
 rw [show j + (j - min j l.length) = j by omega, List.getElem?_eq_getElem hj]
 rfl
theorem dn {β : Type} (f : α → β) (k0 : Int) {j : Nat} {l : List α} (hj : j < l.length) : ((mkP mk cnt k0 j l).map f).set j (f (mk (k0 + ao cnt (l.take j)) l[j])) = (mkP mk cnt k0 (j + 1) l).map f := by
 have hl : (mkL mk cnt k0 (l.take j)).length = j := by rw [bE, List.length_take]; omega
 rw [← List.map_set]
 congr 1
 unfold mkP
 rw [List.set_append_right _ _ (by omega), hl, Nat.sub_self, vN hj, Ar, List.append_assoc]
 congr 1
 rw [List.drop_eq_getElem_cons hj]
 rfl
end
end Go.Proofs.YtcmknngafflcnaaGreat
namespace Go.Proofs.YtcmknngafflcnaaGreat
open Go.RowKit
structure lD (P : Nat → Prop) (w w' : World) : Prop where
 os : w'.os = w.os
 tape : w'.tape = w.tape
 output : w'.output = w.output
 size : w.heap.size ≤ w'.heap.size
 block : ∀ b, b < w.heap.size → ¬ P b → w'.heap[b]? = w.heap[b]?
theorem bN.a {P : Nat → Prop} {w w' : World} (h : bN P w w') : lD P w w' := ⟨h.os, h.tape, h.output, by rw [h.size]; exact Nat.le_refl _, fun b _ hb => h.block b hb⟩
theorem lD.mono {P P' : Nat → Prop} {w w' : World} (h : lD P w w') (hp : ∀ b, P b → P' b) : lD P' w w' := ⟨h.os, h.tape, h.output, h.size, fun b hl hb => h.block b hl fun hq => hb (hp b hq)⟩
theorem cb.focusA {w : World} {P : Nat → Prop} {d1 d2 d3 : List AD} {u1 u2 u3 : List Value} (h : cb w P (d1 ++ d2 ++ d3) (u1 ++ u2 ++ u3)) (e1 : u1.length = d1.length) (e2 : u2.length = d2.length) (hlt : ∀ b, P b → b < w.heap.size) :
  ∃ Q, (∀ b, Q b → P b) ∧ cb w Q d2 u2 ∧ ∀ w' d2', lD Q w w' → cb w' Q d2' u2 → cb w' P (d1 ++ d2' ++ d3) (u1 ++ u2 ++ u3) := by
 obtain ⟨v12, v3, P12, P3, ev, dj, a12, a3, f12, f3⟩ := h.split
 obtain ⟨e12, e3⟩ := List.append_inj ev (by rw [f12.1]; simp [e1, e2])
 subst e12 e3
 obtain ⟨v1, v2, P1, P2, ev, dk, b1, b2, f1, f2⟩ := f12.split
 obtain ⟨e5, e6⟩ := List.append_inj ev (by rw [f1.1]; exact e1)
 subst e5 e6
 refine ⟨P2, fun b hb => a12 b (b2 b hb), f2, fun w' d2' ht hf => ?_⟩
 exact cb.append (P1 := P12) (P2 := P3) (cb.append (P1 := P1) (P2 := P2) (f1.keep fun b hb => ht.block b (hlt b (a12 b (b1 b hb))) fun hq => dk b hb hq) hf dk b1 b2) (f3.keep fun b hb => ht.block b (hlt b (a3 b hb)) fun hq => dj b (b2 b hq) hb) dj a12 a3
def dN (u : Nat → Value) : Nat → List AD → List Value
 | _, [] => []
 | i, .pv v :: r => v :: dN u (i + 1) r
 | i, _ :: r => u i :: dN u (i + 1) r
def rK (u : Nat → Value) : Nat → List AD → List AD
 | _, [] => []
 | i, .pv v :: r => .pv v :: rK u (i + 1) r
 | i, _ :: r => .pv (u i) :: rK u (i + 1) r
def Cx (u : Nat → Value) (i : Nat) : AP1 → AV
 | .one (.pv v) => .one (.d (.pv v))
 | .one _ => .one (.d (.pv (u i)))
 | .agg ds => .agg ((rK u i ds).map .d)
def uOf (us : List Value) : Nat → Value := fun i => us.getD i undef
def Bq (p : AP1) (us : List Value) (v : Value) : Prop :=
 match p with
 | .one _ => us = [v]
 | .agg _ => v = .agg us.toArray
theorem nZ (u : Nat → Value) : ∀ (ds : List AD) (i : Nat), (dN u i ds).length = ds.length
 | [], _ => rfl
 | .pv _ :: r, i => by simp [dN, nZ u r]
 | .sl _ :: r, i => by simp [dN, nZ u r]
 | .x _ :: r, i => by simp [dN, nZ u r]
theorem yM {w : World} {u : Nat → Value} : ∀ {ds : List AD} {us : List Value} {i : Nat}, us.length = ds.length → (∀ (j : Nat) a x, ds[j]? = some a → us[j]? = some x → ∃ P, bb w P a x) → (∀ (j : Nat) x, us[j]? = some x → u (i + j) = x) → dN u i ds = us
 | [], [], _, _, _, _ => rfl
 | d :: r, x :: us, i, hl, hr, hu => by
  have h0 : u i = x := hu 0 x rfl
  have ih := yM (ds := r) (us := us) (i := i + 1) (by simpa using hl) (fun j a y h1 h2 => hr (j + 1) a y (by simpa using h1) (by simpa using h2)) fun j y hy => by rw [← hu (j + 1) y (by simpa using hy)]; congr 1; omega
  obtain ⟨P, ht⟩ := hr 0 d x rfl rfl
  cases d with
  | pv v => cases ht with | pv _ _ => simp only [dN, ih]
  | sl xs => simp only [dN, ih, h0]
  | x R => simp only [dN, ih, h0]
 | [], _ :: _, _, hl, _, _ => by simp at hl
 | _ :: _, [], _, hl, _, _ => by simp at hl
theorem w9 {Z : Nat → Prop} {w : World} (u : Nat → Value) : ∀ {ds : List AD} {i : Nat} {us : List Value}, us.length = ds.length → (∀ (j : Nat) c x, (rK u i ds)[j]? = some c → us[j]? = some x → bC Z w c x) → us = dN u i ds
 | [], _, [], _, _ => rfl
 | d :: r, i, x :: us, hl, hr => by
  have ih : us = dN u (i + 1) r := w9 u (by simpa using hl) fun j c y h1 h2 => hr (j + 1) c y (by cases d <;> simpa [rK] using h1) (by simpa using h2)
  cases d with
  | pv v =>
   have := hr 0 (.pv v) x rfl rfl
   cases this with | pv _ _ => rw [dN, ← ih]
  | sl xs =>
   have := hr 0 (.pv (u i)) x rfl rfl
   cases this with | pv _ _ => show _ = u i :: dN u (i + 1) r; rw [← ih]
  | x R =>
   have := hr 0 (.pv (u i)) x rfl rfl
   cases this with | pv _ _ => show _ = u i :: dN u (i + 1) r; rw [← ih]
 | [], _, _ :: _, hl, _ => by simp at hl
 | _ :: _, _, [], hl, _ => by simp at hl
theorem j6 (u : Nat → Value) : ∀ (ds : List AD) (i : Nat), (rK u i ds).length = ds.length
 | [], _ => rfl
 | .pv _ :: r, i => by simp [rK, j6 u r]
 | .sl _ :: r, i => by simp [rK, j6 u r]
 | .x _ :: r, i => by simp [rK, j6 u r]
theorem C8 {Z : Nat → Prop} {w : World} {ρ : Nat → Value} {u : Nat → Value} {i : Nat} {p : AP1} {v : Value} (h : bM Z w ρ (Cx u i p) v) : Bq p (dN u i (cj p)) v := by
 cases p with
 | one d =>
  cases d with
  | pv x => cases h with | one _ _ h => cases (show bC Z w (.pv x) v from h) with | pv _ _ => rfl
  | sl xs => cases h with | one _ _ h => cases (show bC Z w (.pv (u i)) v from h) with | pv _ _ => rfl
  | x R => cases h with | one _ _ h => cases (show bC Z w (.pv (u i)) v from h) with | pv _ _ => rfl
 | agg ds =>
  cases h with
  | agg _ us hl h =>
   have : us = dN u i ds := w9 (Z := Z) (w := w) u (by simpa [j6] using hl) fun j c x h1 h2 => h j (.d c) x (by rw [List.getElem?_map, h1]; rfl) h2
   show Value.agg us.toArray = .agg (dN u i ds).toArray
   rw [this]
theorem C7 {Z : Nat → Prop} {w w' : World} {P : Nat → Prop} {ρ : Nat → Value} {u : Nat → Value} {i : Nat} {p : AP1} {v : Value} (hf : cb w' P (cj p) (dN u i (cj p))) (hv : Bq p (dN u i (cj p)) v) : bM Z w ρ (Cx u i p) v := by
 have one : ∀ (j : Nat) a x, (cj p)[j]? = some a → (dN u i (cj p))[j]? = some x → x.oneCell' = true := fun j a x h1 h2 => (hf.get h1 h2).one
 cases p with
 | one d =>
  have h1 : v.oneCell' = true := one 0 d v rfl (by rw [show dN u i (cj (.one d)) = [v] from hv]; rfl)
  cases d with
  | pv x =>
   have e : [x] = [v] := hv
   injection e with e
   subst e
   exact .one _ _ (show bC Z w (.pv x) x from .pv _ h1)
  | sl xs =>
   have e : [u i] = [v] := hv
   injection e with e
   subst e
   exact .one _ _ (show bC Z w (.pv (u i)) (u i) from .pv _ h1)
  | x R =>
   have e : [u i] = [v] := hv
   injection e with e
   subst e
   exact .one _ _ (show bC Z w (.pv (u i)) (u i) from .pv _ h1)
 | agg ds =>
  have hv : v = .agg (dN u i ds).toArray := hv
  subst hv
  refine .agg _ _ (by simp [nZ, j6]) fun j c x hc hx => ?_
  rw [List.getElem?_map] at hc
  obtain ⟨d, hd, rfl⟩ := Option.map_eq_some_iff.1 hc
  have hjl : j < ds.length := by rw [← j6 u ds i]; exact (List.getElem?_eq_some_iff.1 hd).1
  have h1 := one j ds[j] x (List.getElem?_eq_getElem hjl) hx
  have same : ∀ (ds : List AD) (i j : Nat) d x, (rK u i ds)[j]? = some d → (dN u i ds)[j]? = some x → d = .pv x := by
   intro ds
   induction ds with
   | nil => intro i j d x h; simp [rK] at h
   | cons a r ih =>
    intro i j d x h1 h2
    cases j with
    | zero => cases a <;> (simp [rK] at h1; simp [dN] at h2; subst h1 h2; rfl)
    | succ j => exact ih (i + 1) j d x (by cases a <;> simpa [rK] using h1) (by cases a <;> simpa [dN] using h2)
  rw [same ds i j d x hd hx]
  exact .pv _ h1
def HH (P : Nat → Prop) (ds : List AD) (us : List Value) : World → Prop := fun w => cb w P ds us
def kj (P : Nat → Prop) (ds : List AD) (us : List Value) : AO := .many P (HH P ds us)
section
variable {T : World → Prop} {S : bt} {Z : Nat → Prop} {w w' : World} {ρ : Nat → Value} {ob : List (Nat × AO)}
theorem WS.renewT (h : WS T S Z w ρ ob) (id : Nat) {P : Nat → Prop} {Q : World → Prop} (hP : ∀ b, P b → b < w.heap.size ∧ ¬ Z b ∧ (S.w0.heap.size ≤ b ∨ S.O b) ∧ ∀ j o, bg ob j = some o → aZ (ρ j) ≠ some b)
  (hd : ∀ j P' Q', bg ob j = some (.many P' Q') → ∀ b, P b → P' b → False) (hq : ∀ w' : World, (∀ b, P b → w'.heap[b]? = w.heap[b]?) → Q w') : WS T S Z w (fun i => if i = id then undef else ρ i) (db (nX id ob) id (.many P Q)) := by
 have old : ∀ j o, j ≠ id → bg (db (nX id ob) id (.many P Q)) j = some o → ∃ o0, bg ob j = some o0 ∧ o = lG id o0 := by
  intro j o hj ho
  rw [bo, if_neg (fun e => hj e.symm), lm] at ho
  obtain ⟨o0, h0, h1⟩ := Option.map_eq_some_iff.1 ho
  exact ⟨o0, h0, h1.symm⟩
 have blk : ∀ j b, aZ (if j = id then undef else ρ j) = some b → j ≠ id ∧ aZ (ρ j) = some b := by
  intro j b hb
  by_cases hj : j = id
  ·rw [if_pos hj] at hb; cases hb
  ·rw [if_neg hj] at hb; exact ⟨hj, hb⟩
 have omany : ∀ j P' Q', bg (db (nX id ob) id (.many P Q)) j = some (.many P' Q') → (j = id ∧ P' = P ∧ Q' = Q) ∨ (j ≠ id ∧ bg ob j = some (.many P' Q')) := by
  intro j P' Q' ho
  by_cases hj : j = id
  ·subst hj
   rw [bo, if_pos rfl] at ho
   injection ho with ho
   injection ho with e1 e2
   exact .inl ⟨rfl, e1.symm, e2.symm⟩
  ·obtain ⟨o0, h0, e⟩ := old j _ hj ho
   exact .inr ⟨hj, by rw [h0, p5 e.symm]⟩
 refine ⟨h.os, h.tape, h.output, h.size, h.old, h.zlt, fun j o b ho hb => ?_, fun i j oi oj b hi hj hij hbi hbj => ?_, fun j o ho => ?_, ⟨fun j P' Q' ho => ?_, fun i j P1 Q1 P2 Q2 hi hj hij b hb1 hb2 => ?_⟩, h.g, h.z0, h.znew⟩
 ·obtain ⟨hj, hb⟩ := blk j b hb
  obtain ⟨o0, h0, _⟩ := old j o hj ho
  exact h.mine j o0 b h0 hb
 ·obtain ⟨hi0, hbi⟩ := blk i b hbi
  obtain ⟨hj0, hbj⟩ := blk j b hbj
  obtain ⟨o0, h0, _⟩ := old i oi hi0 hi
  obtain ⟨o1, h1, _⟩ := old j oj hj0 hj
  exact h.sep i j o0 o1 b h0 h1 hij hbi hbj
 ·by_cases hj : j = id
  ·subst hj
   rw [bo, if_pos rfl] at ho
   injection ho with ho
   subst ho
   show (if j = j then undef else ρ j) = undef
   rw [if_pos rfl]
  ·obtain ⟨o0, h0, rfl⟩ := old j o hj ho
   exact uF hj (h.obj j o0 h0)
 ·have apart : ∀ b, (∀ i o, bg ob i = some o → aZ (ρ i) ≠ some b) → ∀ i o, bg (db (nX id ob) id (.many P Q)) i = some o → aZ (if i = id then undef else ρ i) ≠ some b := by
   intro b hb i o hi hbi
   obtain ⟨hi0, hbi⟩ := blk i b hbi
   obtain ⟨o0, h0, _⟩ := old i o hi0 hi
   exact hb i o0 h0 hbi
  rcases omany j P' Q' ho with ⟨_, rfl, rfl⟩ | ⟨_, ho⟩
  ·exact ⟨fun b hb => ⟨(hP b hb).1, (hP b hb).2.1, (hP b hb).2.2.1, apart b (hP b hb).2.2.2⟩, hq⟩
  ·obtain ⟨h1, h2⟩ := h.many.ok j P' Q' ho
   exact ⟨fun b hb => ⟨(h1 b hb).1, (h1 b hb).2.1, (h1 b hb).2.2.1, apart b (h1 b hb).2.2.2⟩, h2⟩
 ·rcases omany i P1 Q1 hi with ⟨e1, e2, e3⟩ | ⟨hi0, hi1⟩ <;> rcases omany j P2 Q2 hj with ⟨f1, f2, f3⟩ | ⟨hj0, hj1⟩
  ·exact hij (e1.trans f1.symm)
  ·exact hd j P2 Q2 hj1 b (e2 ▸ hb1) hb2
  ·exact hd i P1 Q1 hi1 b (f2 ▸ hb2) hb1
  ·exact h.many.sep i j P1 Q1 P2 Q2 hi1 hj1 hij b hb1 hb2
theorem WS.turn (h : WS T S Z w ρ ob) {id : Nat} {P : Nat → Prop} {Q Q' : World → Prop} (ho : bg ob id = some (.many P Q)) (ht : lD P w w') (hq : ∀ w2 : World, (∀ b, P b → w2.heap[b]? = w'.heap[b]?) → Q' w2) : WS T S Z w' ρ (db ob id (.many P Q')) := by
 obtain ⟨hP, _⟩ := h.many.ok id P Q ho
 have hρ : ρ id = undef := h.obj id _ ho
 have hz : ∀ b, Z b → w'.heap[b]? = w.heap[b]? := fun b hb => ht.block b (h.zlt b hb) fun hp => (hP b hp).2.1 hb
 have hob : ∀ j o b, bg ob j = some o → aZ (ρ j) = some b → w'.heap[b]? = w.heap[b]? := fun j o b hj hb => ht.block b (h.lt hj hb) fun hp => (hP b hp).2.2.2 j o hj hb
 have old : ∀ j o1, bg (db ob id (.many P Q')) j = some o1 → ∃ o0, bg ob j = some o0 ∧ (j ≠ id → o1 = o0) := by
  intro j o1 h1
  rw [bo] at h1
  split at h1
  ·rename_i e; subst e; exact ⟨_, ho, fun h => absurd rfl h⟩
  ·exact ⟨o1, h1, fun _ => rfl⟩
 have omany : ∀ j P1 Q1, bg (db ob id (.many P Q')) j = some (.many P1 Q1) → (j = id ∧ P1 = P ∧ Q1 = Q') ∨ (j ≠ id ∧ bg ob j = some (.many P1 Q1)) := by
  intro j P1 Q1 h1
  by_cases hj : j = id
  ·subst hj
   rw [bo, if_pos rfl] at h1
   injection h1 with h1
   injection h1 with e1 e2
   exact .inl ⟨rfl, e1.symm, e2.symm⟩
  ·obtain ⟨o0, h0, e⟩ := old j _ h1
   exact .inr ⟨hj, by rw [h0, ← e hj]⟩
 refine ⟨ht.os.trans h.os, ht.tape.trans h.tape, ht.output.trans h.output, Nat.le_trans h.size ht.size, fun b hb hO => ?_, fun b hb => Nat.lt_of_lt_of_le (h.zlt b hb) ht.size, fun j o b hj hb => ?_, fun i j oi oj b hi hj hij hbi hbj => ?_, fun j o hj => ?_, ⟨fun j P1 Q1 hj => ?_, fun i j P1 Q1 P2 Q2 hi hj hij b hb1 hb2 => ?_⟩, ?_, h.z0, h.znew⟩
 ·refine (ht.block b (Nat.lt_of_lt_of_le hb h.size) fun hp => ?_).trans (h.old b hb hO)
  rcases (hP b hp).2.2.1 with h3 | h3
  ·omega
  ·exact hO h3
 ·obtain ⟨o0, h0, _⟩ := old j o hj
  exact h.mine j o0 b h0 hb
 ·obtain ⟨o0, h0, _⟩ := old i oi hi
  obtain ⟨o1, h1, _⟩ := old j oj hj
  exact h.sep i j o0 o1 b h0 h1 hij hbi hbj
 ·by_cases hjd : j = id
  ·subst hjd
   rw [bo, if_pos rfl] at hj
   injection hj with hj
   subst hj
   exact hρ
  ·obtain ⟨o0, h0, e⟩ := old j o hj
   rw [e hjd]
   exact (h.obj j o0 h0).mono (fun _ h => h) hz fun b hb => hob j o0 b h0 hb
 ·have apart : ∀ b, (∀ i o, bg ob i = some o → aZ (ρ i) ≠ some b) → ∀ i o, bg (db ob id (.many P Q')) i = some o → aZ (ρ i) ≠ some b := by
   intro b hb i o hi hbi
   obtain ⟨o0, h0, _⟩ := old i o hi
   exact hb i o0 h0 hbi
  rcases omany j P1 Q1 hj with ⟨_, rfl, rfl⟩ | ⟨hjd, hj⟩
  ·exact ⟨fun b hb => ⟨Nat.lt_of_lt_of_le (hP b hb).1 ht.size, (hP b hb).2.1, (hP b hb).2.2.1, apart b (hP b hb).2.2.2⟩, hq⟩
  ·obtain ⟨h1, h2⟩ := h.many.ok j P1 Q1 hj
   refine ⟨fun b hb => ⟨Nat.lt_of_lt_of_le (h1 b hb).1 ht.size, (h1 b hb).2.1, (h1 b hb).2.2.1, apart b (h1 b hb).2.2.2⟩, fun w2 hw => h2 w2 fun b hb => (hw b hb).trans (ht.block b (h1 b hb).1 fun hp => h.many.sep j id P1 Q1 P Q hj ho hjd b hb hp)⟩
 ·rcases omany i P1 Q1 hi with ⟨e1, e2, e3⟩ | ⟨hi0, hi1⟩ <;> rcases omany j P2 Q2 hj with ⟨f1, f2, f3⟩ | ⟨hj0, hj1⟩
  ·exact hij (e1.trans f1.symm)
  ·exact h.many.sep id j P Q P2 Q2 ho hj1 (fun e => hj0 e.symm) b (e2 ▸ hb1) hb2
  ·exact h.many.sep i id P1 Q1 P Q hi1 ho hi0 b hb1 (f2 ▸ hb2)
  ·exact h.many.sep i j P1 Q1 P2 Q2 hi1 hj1 hij b hb1 hb2
 ·obtain ⟨w1, g1, g2, g3⟩ := h.g
  exact ⟨w1, g1, ⟨ht.os.trans g2.os, ht.tape.trans g2.tape, ht.output.trans g2.output, Nat.le_trans g2.size ht.size, fun k hk => (hz k (g3 k hk)).trans (g2.block k hk)⟩, g3⟩
end
section
variable {E : ba} {S : bt}
theorem iw.rs {T : World → Prop} {ob : List (Nat × AO)} {args : List AV} {ps : List AP1} (h : aRs ob args (· = ps)) : iw T ob args ps := by
 refine ⟨fun S Z ρ w us hs hl hr => ?_⟩
 obtain ⟨ps', h1, h2, rfl⟩ := fJ (E := ⟨default, .leaf, T⟩) (st := ⟨[], ob⟩) hs hl hr h
 exact ⟨fI Z ρ ob, fun b hb => .inl hb, fI.lt hs, h1, h2⟩
theorem dA.up {Z Z' : Nat → Prop} {w : World} (hz : ∀ b, Z b → Z' b) {p : AP1} {v : Value} (h : dA Z w p v) : dA Z' w p v := by
 cases p with
 | one d => exact bC.mono hz (fun _ _ => rfl) h
 | agg ds => obtain ⟨us, e, hl, hr⟩ := h; exact ⟨us, e, hl, fun i d u h5 h6 => (hr i d u h5 h6).mono hz fun _ _ => rfl⟩
theorem FM {P : Nat → Prop} {w : World} {p : AP1} {us : List Value} {v : Value} (h : cb w P (cj p) us) (hv : Bq p us v) : dA P w p v := by
 cases p with
 | one d => have hv : us = [v] := hv; subst hv; exact (h.relD fun _ h => h).2 0 d v rfl rfl
 | agg ds => exact ⟨us, hv, (h.relD fun _ h => h).1, (h.relD fun _ h => h).2⟩
theorem iw.tree {T : World → Prop} {ob : List (Nat × AO)} {x : AV} {rest : List AV} {p0 : AP1} {psr : List AP1} (id : Nat) {P : Nat → Prop} {u : Nat → Value} (hx : x = Cx u 0 p0) (hob : aOb ob id fun o => o = kj P (cj p0) (dN u 0 (cj p0))) (hrest : aRs ob rest (· = psr)) : iw T ob (x :: rest) (p0 :: psr) := by
 refine ⟨fun S Z ρ w us hs hl hr => ?_⟩
 subst hx
 obtain ⟨o, ho, rfl⟩ := bH hob
 obtain ⟨hP, hQ⟩ := hs.many.ok id P _ ho
 have hF : cb w P (cj p0) (dN u 0 (cj p0)) := hQ w fun _ _ => rfl
 cases us with
 | nil => simp at hl
 | cons v us =>
  obtain ⟨ps', h1, h2, rfl⟩ := fJ (E := ⟨default, .leaf, T⟩) (st := ⟨[], ob⟩) hs (xs := rest) (us := us) (by simpa using hl) (fun i y z h1 h2 => hr (i + 1) y z (by simpa using h1) (by simpa using h2)) hrest
  have hv := C8 (hr 0 _ v rfl rfl)
  refine ⟨fun b => fI Z ρ ob b ∨ P b, fun b hb => .inl (.inl hb), fun b hb => ?_, by simp [h1], fun i p y h3 h4 => ?_⟩
  ·rcases hb with hb | hb
   ·exact fI.lt hs b hb
   ·exact (hP b hb).1
  ·cases i with
   | zero => simp at h3 h4; subst h3 h4; exact (FM hF hv).up fun b hb => .inr hb
   | succ i => exact (h2 i p y (by simpa using h3) (by simpa using h4)).up fun b hb => .inl hb
theorem aa.ext {f : FuncId} {args : List AV} {st : ASt} {K : AV → ASt → Prop} {ps : List AP1} {res : AP} (hc : ak E f ps res) (hx : iw E.W st.ob args ps) (hsc : res.scalar = true) (hk : K res.v st) : aa E S f args st K := by
 refine ⟨hc.enter, fun Z ρ a w us hs hl hr => ?_⟩
 obtain ⟨Z2, z1, z2, h1, h2⟩ := hx.h S Z ρ w us hs.ws hl hr
 refine (hc.run Z2 w us z2 ?_ h1 h2).mono ?_
 ·obtain ⟨w1, g1, g2, g3⟩ := hs.ws.g
  exact ⟨w1, g1, g2, fun b hb => z1 b (g3 b hb)⟩
 ·rintro e w' ⟨v, Z', rfl, hb, hz, hz2, hv⟩
  exact ⟨v, res.v, st, Z, ρ, rfl, hs.grow (cV hb) (fun _ h => h) (fun _ h => .inl h), (hv.any hsc).v, hk⟩
theorem aa.tree {f : FuncId} {args : List AV} {st : ASt} {K : AV → ASt → Prop} {ps : List AP1} {res : AP1} (id : Nat) (hc : bk E f ps res) (hx : iw E.W st.ob args ps) (hk : ∀ (P : Nat → Prop) (u : Nat → Value), sT st id (kj P (cj res) (dN u 0 (cj res))) (K (Cx u 0 res))) : aa E S f args st K := by
 refine ⟨hc.enter, fun Z ρ a w us hs hl hr => ?_⟩
 obtain ⟨Z2, z1, z2, h1, h2⟩ := hx.h S Z ρ w us hs.ws hl hr
 refine (hc.run Z2 w us z2 ?_ h1 h2).mono ?_
 ·obtain ⟨w1, g1, g2, g3⟩ := hs.ws.g
  exact ⟨w1, g1, g2, fun b hb => z1 b (g3 b hb)⟩
 ·rintro e w' ⟨v, rfl, hb, hv⟩
  obtain ⟨us', hf, hvu⟩ : ∃ us', cb w' (fun b => w.heap.size ≤ b ∧ b < w'.heap.size) (cj res) us' ∧ Bq res us' v := by
   cases res with
   | one d => exact ⟨[v], hv, rfl⟩
   | agg ds => obtain ⟨us', e, h⟩ := hv; exact ⟨us', h, e⟩
  have hU : dN (uOf us') 0 (cj res) = us' := yM (w := w') hf.1 (fun j a x h1 h2 => ⟨_, hf.get h1 h2⟩) fun j x hj => by simp [uOf, List.getD_eq_getElem?_getD, hj]
  have hg := hs.grow (Z' := Z) (cV hb) (fun _ h => h) (fun _ h => .inl h)
  have hsz := hs.ws.size
  have hws := hg.ws.renewT id (P := fun b => w.heap.size ≤ b ∧ b < w'.heap.size) (Q := HH (fun b => w.heap.size ≤ b ∧ b < w'.heap.size) (cj res) us') (fun b hb => ⟨hb.2, fun hz => by have := hs.ws.zlt b hz; omega, .inl (by omega), fun j o ho hbj => by have := hs.ws.lt ho hbj; omega⟩)
   (fun j P' Q' ho b hb hb' => by have := ((hs.ws.many.ok j P' Q' ho).1 b hb').1; omega) fun w2 hw => hf.keep hw
  have h3 := eS (hk (fun b => w.heap.size ≤ b ∧ b < w'.heap.size) (uOf us'))
  rw [hU] at h3
  refine ⟨v, _, _, Z, _, rfl, ⟨hws, by simp [dV, hg.len], fun i x y hx hy => ?_, hg.df⟩, C7 (w' := w') (by rw [hU]; exact hf) (by rw [hU]; exact hvu), h3⟩
  simp only [dV, List.getElem?_map] at hx
  obtain ⟨x0, h0, rfl⟩ := Option.map_eq_some_iff.1 hx
  exact rD (hg.tm i x0 y h0 hy)
structure bR (E : ba) (f : FuncId) (p : AP1) (k : Int) (p' : AP1) (k' : Int) : Prop where
 enter : ∀ (us : Array Value) w, (callFunc f us).run E.P w = .ok (.enter f us) w
 run : ∀ (P Z : Nat → Prop) (w : World) (us : List Value) (v : Value), (∀ b, Z b → b < w.heap.size) → GZ E.W Z w → (∀ b, P b → b < w.heap.size ∧ ¬ Z b) → cb w P (cj p) us → Bq p us v →
  Calls E.P f #[v, .int .i64 k] w fun e w' => e = .returned (.int .i64 k') ∧ lD P w w' ∧ cb w' P (cj p') us
theorem bR.of {f : FuncId} {d d' : AD} {k k' : Int} (enter : ∀ (us : Array Value) w, (callFunc f us).run E.P w = .ok (.enter f us) w)
  (h : ∀ P w v, bb w P d v → Calls E.P f #[v, .int .i64 k] w (fH k' P w fun w' => bb w' P d' v)) : bR E f (.one d) k (.one d') k' := by
 refine ⟨enter, fun P Z w us v hz hg hP hf hv => ?_⟩
 have hv : us = [v] := hv
 subst hv
 refine (h P w v (hf.get (i := 0) rfl rfl)).mono ?_
 rintro e w' ⟨rfl, ht, hr⟩
 exact ⟨rfl, ht.a, .one hr⟩
theorem aa.turn {f : FuncId} {x : AV} {tm : List AV} {ob : List (Nat × AO)} {K : AV → ASt → Prop} {p p' : AP1} {k k' : Int} (id : Nat) (j : Nat) (d1 d3 : List AD) (u1 u3 : List Value) {P : Nat → Prop} {u : Nat → Value} {D : List AD} {U : List Value} (hc : bR E f p k p' k') (hx : x = Cx u j p)
  (hob : aOb ob id fun o => o = kj P D U) (hD : D = d1 ++ cj p ++ d3) (hU : U = u1 ++ dN u j (cj p) ++ u3) (hl : u1.length = d1.length)
  (hk : dX id (kj P (d1 ++ cj p' ++ d3) (u1 ++ dN u j (cj p) ++ u3)) ob fun ob => K (vI .i64 k') ⟨tm, ob⟩) : aa E S f [x, vI .i64 k] ⟨tm, ob⟩ K := by
 refine ⟨hc.enter, fun Z ρ a w us hs hln hr => ?_⟩
 subst hx hD hU
 obtain ⟨o, ho, rfl⟩ := bH hob
 obtain ⟨hP, hQ⟩ := hs.ws.many.ok id P _ ho
 have hF : cb w P (d1 ++ cj p ++ d3) (u1 ++ dN u j (cj p) ++ u3) := hQ w fun _ _ => rfl
 obtain ⟨Q, hQP, hfq, hcl⟩ := hF.focusA hl (nZ _ _ _) fun b hb => (hP b hb).1
 match us, hln with
 | [v, y], _ =>
  have hv := C8 (hr 0 _ v rfl rfl)
  have hy : y = .int .i64 k := by
   have := hr 1 _ y rfl rfl
   cases this with | one _ _ h => cases (show bC Z w (.pv (.int .i64 k)) y from h) with | pv _ _ => rfl
  subst hy
  refine (hc.run Q Z w _ v hs.ws.zlt hs.ws.g (fun b hb => ⟨(hP b (hQP b hb)).1, (hP b (hQP b hb)).2.1⟩) hfq hv).mono ?_
  rintro e w' ⟨rfl, ht, hf'⟩
  have hF' := hcl w' (cj p') ht hf'
  have hws := hs.ws.turn (Q' := HH P (d1 ++ cj p' ++ d3) (u1 ++ dN u j (cj p) ++ u3)) ho (ht.mono hQP) fun w2 hw => hF'.keep hw
  refine ⟨_, _, ⟨tm, db ob id (kj P (d1 ++ cj p' ++ d3) (u1 ++ dN u j (cj p) ++ u3))⟩, Z, ρ, rfl, ⟨hws, hs.len, fun i z q hz hq => (hs.tm i z q hz hq).mono (fun _ h => h) fun b hb => ht.block b (hs.ws.zlt b hb) fun hq => (hP b (hQP b hq)).2.1 hb, hs.df⟩, .one (.d (.pv (.int .i64 k'))) _ (show bC Z w' (.pv (.int .i64 k')) (.int .i64 k') from .pv _ rfl), bX hk⟩
def Ko (E : ba) (rs : List ResultVar) (k' : Int) (P : Nat → Prop) (D : List AD) (U : List Value) : Exit → ASt → Prop
 | .ret, st => y6 E st rs (· = .val (pI k')) ∧ aOb st.ob 9001 fun o => o = kj P D U
 | .normal, st => y6 E st rs (· = .val (pI k')) ∧ aOb st.ob 9001 fun o => o = kj P D U
 | _, _ => False
theorem dH (he : E.Ok) {f : FuncId} {fn : Func} {c : Code} {n : Nat} {rs : List ResultVar} {p p' : AP1} {k k' : Int} (hf : E.P.funcs[f]? = some fn) (hb : fn.body = some c)
  (enter : ∀ (us : Array Value) w, (callFunc f us).run E.P w = .ok (.enter f us) w) (hn : fn.ntmps = n + 2) (hrs : fn.results.toList = rs)
  (h : ∀ (S : bt) (P : Nat → Prop) (u : Nat → Value), AWP E S c (Ko E rs k' P (cj p') (dN u 0 (cj p))) ⟨Cx u 0 p :: vI .i64 k :: List.replicate n (.one .und), [(9001, kj P (cj p) (dN u 0 (cj p)))]⟩) : bR E f p k p' k' := by
 refine ⟨enter, fun P Z w us v hz hg hP hF hv => ?_⟩
 subst hrs
 have hU : dN (uOf us) 0 (cj p) = us := yM (w := w) hF.1 (fun j a x h1 h2 => ⟨_, hF.get h1 h2⟩) fun j x hj => by simp [uOf, List.getD_eq_getElem?_getD, hj]
 have hk := h ⟨w, P, Z⟩ P (uOf us)
 have hw0 : WS E.W ⟨w, P, Z⟩ Z w (fun _ => undef) [(9001, kj P (cj p) us)] := by
  have only : ∀ i o, bg [(9001, kj P (cj p) us)] i = some o → i = 9001 ∧ o = kj P (cj p) us := by
   intro i o ho
   simp only [bg] at ho
   split at ho
   ·rename_i e; injection ho with ho; exact ⟨e.symm, ho.symm⟩
   ·cases ho
  refine ⟨rfl, rfl, rfl, Nat.le_refl _, fun _ _ _ => rfl, hz, fun id o b ho hb => (by cases hb), fun i j oi oj b hi hj hij hbi _ => (by cases hbi), fun id o ho => ?_, ⟨fun id P' Q' ho => ?_, fun i j P1 Q1 P2 Q2 hi hj hij => ?_⟩, hg, fun b hb => hb, fun b hb => .inl hb⟩
  ·obtain ⟨rfl, rfl⟩ := only id o ho
   rfl
  ·obtain ⟨rfl, e⟩ := only id _ ho
   injection e with e1 e2
   subst e1 e2
   exact ⟨fun b hb => ⟨(hP b hb).1, (hP b hb).2, .inr hb, fun j o _ hbj => by cases hbj⟩, fun w' hw => hF.keep hw⟩
  ·exact absurd ((only i _ hi).1.trans (only j _ hj).1.symm) hij
 have hs : Sim E.W ⟨w, P, Z⟩ Z (fun _ => undef) ⟨Cx (uOf us) 0 p :: vI .i64 k :: List.replicate n (.one .und), [(9001, kj P (cj p) (dN (uOf us) 0 (cj p)))]⟩ { tmps := #[v, .int .i64 k] ++ Array.replicate (fn.ntmps - #[v, .int .i64 k].size) undef, defers := [] } w := by
  refine ⟨by rw [hU]; exact hw0, by simp [hn]; omega, fun i x y hx hy => ?_, rfl⟩
  simp only at hx hy
  have hy' : (v :: .int .i64 k :: List.replicate n undef)[i]? = some y := by
   rw [← Array.getElem?_toList] at hy
   simpa [hn] using hy
  match i, hx, hy' with
  | 0, hx, hy' =>
   simp at hx hy'
   subst hx hy'
   exact C7 (w' := w) (by rw [hU]; exact hF) (by rw [hU]; exact hv)
  | 1, hx, hy' =>
   simp at hx hy'
   subst hx hy'
   exact .one _ _ (show bC Z w (.pv (.int .i64 k)) (.int .i64 k) from .pv _ rfl)
  | i + 2, hx, hy' =>
   have e1 := List.eq_of_mem_replicate (List.mem_of_getElem? (by simpa using hx))
   have e2 := List.eq_of_mem_replicate (List.mem_of_getElem? (by simpa using hy'))
   subst e1 e2
   exact .one _ _ (show eh Z w (fun _ => undef) .und undef from rfl)
 refine calls_of_wp hf hb (wp_mono (hk.run _ w ⟨Z, _, hs⟩) fun e a' w' h' => ?_)
 obtain ⟨st', ⟨Z', ρ', hs'⟩, hk'⟩ := h'
 have fin : (y6 E st' fn.results.toList (· = .val (pI k')) ∧ aOb st'.ob 9001 fun o => o = kj P (cj p') (dN (uOf us) 0 (cj p))) → a'.defers = [] ∧ ∃ v, (results fn a'.tmps).run E.P w' = .ok v w' ∧ Ending.returned v = .returned (.int .i64 k') ∧ lD P w w' ∧ cb w' P (cj p') us := by
  rintro ⟨hr, ho⟩
  obtain ⟨v, q, h1, h2, h3⟩ := za he hs' hr
  subst h3
  obtain ⟨o, ho, rfl⟩ := bH ho
  rw [hU] at ho
  cases (show bC _ _ (.pv (.int .i64 k')) v from h2) with
  | pv _ _ => exact ⟨hs'.df, _, h1, rfl, ⟨hs'.ws.os, hs'.ws.tape, hs'.ws.output, hs'.ws.size, fun b hb hp => hs'.ws.old b hb hp⟩, (hs'.ws.many.ok 9001 P _ ho).2 w' fun _ _ => rfl⟩
 cases e with
 | normal => exact fin hk'
 | ret => exact fin hk'
 | _ => exact hk'.elim
end
end Go.Proofs.YtcmknngafflcnaaGreat
