/- J03 -/
import Derived.Test.YtcmknngafflcnaaGreatJ01
import Derived.Test.YtcmknngafflcnaaGreatAvJ3
import Derived.Laws.BytesArg
import Derived.Laws.BytesString
import Derived.Maps.OwnSet
import Derived.Test.YtcmknngafflcnaaGreatJ02
set_option linter.unusedVariables false
set_option linter.unusedSimpArgs false
set_option maxRecDepth 100000
namespace Go.Proofs.YtcmknngafflcnaaGreat
open Go.ChangeShapes Go.WideShapes Go.RowKit
def Rep.via {α β : Type} (f : β → α) (R : Rep α) : Rep β where
 size := R.size
 rd := fun w cs b F => R.rd w cs (f b) F
 len := fun h => R.len h
 one := fun h => R.one h
 lt := fun h => R.lt h
 keep := fun h k => R.keep h k
structure DStep where
 kind : Int
 a : Int
 b : Int
 c : Int
 fates : (List Int)
 deriving DecidableEq
def Rep.DStep : Rep DStep := Rep.via (fun x => (x.kind, x.a, x.b, x.c, x.fates)) (Rep.pair (Rep.int .i64) (Rep.pair (Rep.int .i64) (Rep.pair (Rep.int .i64) (Rep.pair (Rep.int .i64) (Rep.sl (Rep.int .i64))))))
structure DOp where
 kind : Int
 a : Int
 b : Int
 c : Int
 d : Int
 deriving DecidableEq
def Rep.DOp : Rep DOp := Rep.via (fun x => (x.kind, x.a, x.b, x.c, x.d)) (Rep.pair (Rep.int .i64) (Rep.pair (Rep.int .i64) (Rep.pair (Rep.int .i64) (Rep.pair (Rep.int .i64) (Rep.int .i64)))))
structure DEntry where
 index : Int
 time : Int
 client : Int
 seq : Int
 op : DOp
 deriving DecidableEq
def Rep.DEntry : Rep DEntry := Rep.via (fun x => (x.index, x.time, x.client, x.seq, x.op)) (Rep.pair (Rep.int .i64) (Rep.pair (Rep.int .i64) (Rep.pair (Rep.int .i64) (Rep.pair (Rep.int .i64) Rep.DOp))))
structure DMsg where
 frm : Int
 to_ : Int
 row : (List Int)
 deriving DecidableEq
def Rep.DMsg : Rep DMsg := Rep.via (fun x => (x.frm, x.to_, x.row)) (Rep.pair (Rep.int .i64) (Rep.pair (Rep.int .i64) (Rep.sl (Rep.int .i64))))
structure DLink where
 a : Int
 b : Int
 deriving DecidableEq
def Rep.DLink : Rep DLink := Rep.via (fun x => (x.a, x.b)) (Rep.pair (Rep.int .i64) (Rep.int .i64))
structure DNet where
 flight : (List DMsg)
 cuts : (List DLink)
 deriving DecidableEq
def Rep.DNet : Rep DNet := Rep.via (fun x => (x.flight, x.cuts)) (Rep.pair (Rep.sl Rep.DMsg) (Rep.sl Rep.DLink))
structure DWant where
 kind : Int
 op : DOp
 key : Int
 deriving DecidableEq
def Rep.DWant : Rep DWant := Rep.via (fun x => (x.kind, x.op, x.key)) (Rep.pair (Rep.int .i64) (Rep.pair Rep.DOp (Rep.int .i64)))
end Go.Proofs.YtcmknngafflcnaaGreat
namespace Go.Proofs.YtcmknngafflcnaaGreat
open Go.RowKit
def pp (Z : Nat → Prop) (w : World) (ds : List AD) (cs : List Value) : Prop := cs.length = ds.length ∧ ∀ (i : Nat) d u, ds[i]? = some d → cs[i]? = some u → bC Z w d u
theorem pp.append {Z : Nat → Prop} {w : World} {ds es : List AD} {cs bs : List Value} (h : pp Z w ds cs) (h' : pp Z w es bs) : pp Z w (ds ++ es) (cs ++ bs) := by
 refine ⟨by simp [h.1, h'.1], fun i d u hd hu => ?_⟩
 by_cases hi : i < ds.length
 ·rw [List.getElem?_append_left hi] at hd
  rw [List.getElem?_append_left (by rw [h.1]; exact hi)] at hu
  exact h.2 i d u hd hu
 ·rw [List.getElem?_append_right (by omega)] at hd
  rw [List.getElem?_append_right (by rw [h.1]; omega), h.1] at hu
  exact h'.2 _ d u hd hu
theorem pp.one {Z : Nat → Prop} {w : World} {d : AD} {u : Value} (h : bC Z w d u) : pp Z w [d] [u] := ⟨rfl, fun i x y hx hy => by
 cases i with
 | zero => simp at hx hy; subst hx hy; exact h
 | succ i => simp at hx⟩
def Enc {α : Type} (R : Rep α) (enc : α → List AD) : Prop := ∀ {w cs a F}, R.rd w cs a F → pp (fun b => b < w.heap.size) w (enc a) cs
theorem Enc.int {k : IntKind} : Enc (Rep.int k) fun n => [.pv (.int k n)] := by
 rintro w cs a F ⟨rfl, _, _⟩
 exact .one (.pv _ rfl)
theorem Enc.bool : Enc Rep.bool fun b => [.pv (.bool b)] := by
 rintro w cs a F ⟨rfl, _⟩
 exact .one (.pv _ rfl)
theorem Enc.str : Enc Rep.str fun b => [.pv (.string b)] := by
 rintro w cs a F ⟨rfl, _⟩
 exact .one (.pv _ rfl)
theorem Enc.pair {α β : Type} {R : Rep α} {S : Rep β} {f : α → List AD} {g : β → List AD} (h : Enc R f) (h' : Enc S g) : Enc (Rep.pair R S) fun x => f x.1 ++ g x.2 := by
 rintro w cs a F ⟨c1, c2, F1, F2, rfl, rfl, h1, h2⟩
 exact (h h1).append (h' h2)
theorem Enc.via {α β : Type} {R : Rep α} {f : β → α} {g : α → List AD} (h : Enc R g) : Enc (Rep.via f R) fun x => g (f x) := fun hr => h hr
theorem Enc.all {α : Type} {R : Rep α} {f : α → List AD} (h : Enc R f) {w : World} : ∀ {l : List α} {xs : List Value} {F : List Nat}, R.all w xs l F → ∃ us : List (List Value), us.flatten = xs ∧ us.length = l.length ∧ (∀ u ∈ us, u.length = R.size) ∧
  ∀ (i : Nat) a u, l[i]? = some a → us[i]? = some u → pp (fun b => b < w.heap.size) w (f a) u
 | [], _, _, ⟨rfl, _⟩ => ⟨[], rfl, rfl, by simp, by simp⟩
 | a :: l, _, _, ⟨c1, c2, F1, F2, rfl, rfl, h1, h2⟩ => by
  obtain ⟨us, e1, e2, e3, e4⟩ := Enc.all h h2
  refine ⟨c1 :: us, by simp [e1], by simp [e2], fun u hu => ?_, fun i b u hb hu => ?_⟩
  ·rcases List.mem_cons.1 hu with rfl | hu
   ·exact R.len h1
   ·exact e3 u hu
  ·cases i with
   | zero => simp at hb hu; subst hb hu; exact h h1
   | succ i => exact e4 i b u (by simpa using hb) (by simpa using hu)
theorem Enc.len {α : Type} {R : Rep α} {f : α → List AD} (h : Enc R f) {w cs a F} (hr : R.rd w cs a F) : (f a).length = R.size := by rw [← (h hr).1, R.len hr]
theorem Enc.sl {α : Type} {R : Rep α} {f : α → List AD} (h : Enc R f) : Enc (Rep.sl R) fun l => [.sl (l.map f)] := by
 rintro w cs l F ⟨A, cap, xs, F1, rfl, hc, hm, hrow, hall, rfl⟩
 obtain ⟨us, rfl, e2, e3, e4⟩ := Enc.all h hall
 refine .one ?_
 have := bC.sl (Z := fun b => b < w.heap.size) (w := w) (l.map f) A cap R.size us (by simpa using hc) hm (by simpa using e2) (fun x hx => ?_) e3 ?_ fun i j x u a b hx hu ha hb => ?_
 ·simpa using this
 ·obtain ⟨a, ha, rfl⟩ := List.mem_map.1 hx
  obtain ⟨i, hi, rfl⟩ := List.getElem_of_mem ha
  have hlt : i < us.length := by omega
  have h1 := (e4 i l[i] us[i] (List.getElem?_eq_getElem hi) (List.getElem?_eq_getElem hlt)).1
  rw [← h1]
  exact e3 _ (List.getElem_mem hlt)
 ·by_cases h0 : us.flatten = []
  ·exact .inl h0
  ·obtain ⟨b, off, hA, hlt, hcell⟩ := hrow 0 (List.length_pos_iff.2 h0)
   exact .inr ⟨b, off, hA, hlt, hcell⟩
 ·rw [List.getElem?_map] at hx
  obtain ⟨y, hy, rfl⟩ := Option.map_eq_some_iff.1 hx
  exact (e4 i y u hy hu).2 j a b ha hb
theorem Enc.agg {α : Type} {R : Rep α} {f : α → List AD} (h : Enc R f) {w : World} {cs : Array Value} {a : α} {F : List Nat} (hr : R.rd w cs.toList a F) : dA (fun b => b < w.heap.size) w (.agg (f a)) (.agg cs) :=
 ⟨cs.toList, by simp, (h hr).1, (h hr).2⟩
theorem Enc.cell {α : Type} {R : Rep α} {f : α → AD} (h : Enc R fun a => [f a]) {w : World} {v : Value} {a : α} {F : List Nat} (hr : R.rd w [v] a F) : dA (fun b => b < w.heap.size) w (.one (f a)) v :=
 (h hr).2 0 _ _ rfl rfl
theorem ak.walk {E : ba} {f : FuncId} {args : List AP1} {p : Bool} (h : ak E f args (.val (.one (.pv (.bool p))))) {W : World} (hT : E.W W) {us : Array Value} (hl : us.size = args.length) (hr : ∀ (i : Nat) p u, args[i]? = some p → us.toList[i]? = some u → dA (fun b => b < W.heap.size) W p u) :
  Calls E.P f us W fun e W' => e = .returned (.bool p) ∧ Below W.heap.size W W' := by
 have := h.run (fun b => b < W.heap.size) W us.toList (fun _ hb => hb) ⟨W, hT, Below.refl _ _, fun _ hb => hb⟩ (by simpa using hl) hr
 rw [Array.toArray_toList] at this
 refine this.mono ?_
 rintro e w' ⟨v, Z', rfl, hb, _, _, hv⟩
 have hv' : bC Z' w' (.pv (.bool p)) v := hv
 cases hv' with
 | pv => exact ⟨rfl, hb⟩
end Go.Proofs.YtcmknngafflcnaaGreat
namespace Go.Proofs.YtcmknngafflcnaaGreat
open Go.RowKit
def az {α : Type} (R : Rep α) (enc : α → List AD) : Prop := ∀ {w cs a F} {Z : Nat → Prop}, (∀ b ∈ F, Z b) → R.rd w cs a F → pp Z w (enc a) cs
theorem az.int {k : IntKind} : az (Rep.int k) fun n => [.pv (.int k n)] := by
 rintro w cs a F Z _ ⟨rfl, _, _⟩
 exact .one (.pv _ rfl)
theorem az.pair {α β : Type} {R : Rep α} {S : Rep β} {f : α → List AD} {g : β → List AD} (h : az R f) (h' : az S g) : az (Rep.pair R S) fun x => f x.1 ++ g x.2 := by
 rintro w cs a F Z hz ⟨c1, c2, F1, F2, rfl, rfl, h1, h2⟩
 exact (h (fun b hb => hz b (List.mem_append_left _ hb)) h1).append (h' (fun b hb => hz b (List.mem_append_right _ hb)) h2)
theorem az.via {α β : Type} {R : Rep α} {f : β → α} {g : α → List AD} (h : az R g) : az (Rep.via f R) fun x => g (f x) := fun hz hr => h hz hr
theorem az.all {α : Type} {R : Rep α} {f : α → List AD} (h : az R f) {w : World} {Z : Nat → Prop} : ∀ {l : List α} {xs : List Value} {F : List Nat}, (∀ b ∈ F, Z b) → R.all w xs l F → ∃ us : List (List Value), us.flatten = xs ∧ us.length = l.length ∧ (∀ u ∈ us, u.length = R.size) ∧
  ∀ (i : Nat) a u, l[i]? = some a → us[i]? = some u → pp Z w (f a) u
 | [], _, _, _, ⟨rfl, _⟩ => ⟨[], rfl, rfl, by simp, by simp⟩
 | a :: l, xs, F, hz, h0 => by
  obtain ⟨c1, c2, F1, F2, e1, e2, h1, h2⟩ := h0
  subst e1 e2
  obtain ⟨us, e1, e2, e3, e4⟩ := az.all h (fun b hb => hz b (List.mem_append_right _ hb)) h2
  refine ⟨c1 :: us, by simp [e1], by simp [e2], fun u hu => ?_, fun i b u hb hu => ?_⟩
  ·rcases List.mem_cons.1 hu with rfl | hu
   ·exact R.len h1
   ·exact e3 u hu
  ·cases i with
   | zero => simp at hb hu; subst hb hu; exact h (fun b hb => hz b (List.mem_append_left _ hb)) h1
   | succ i => exact e4 i b u (by simpa using hb) (by simpa using hu)
theorem az.sl {α : Type} {R : Rep α} {f : α → List AD} (h : az R f) : az (Rep.sl R) fun l => [.sl (l.map f)] := by
 rintro w cs l F Z hz ⟨A, cap, xs, F1, rfl, hc, hm, hrow, hall, rfl⟩
 obtain ⟨us, rfl, e2, e3, e4⟩ := az.all h (fun b hb => hz b (List.mem_append_right _ hb)) hall
 refine .one ?_
 have := bC.sl (Z := Z) (w := w) (l.map f) A cap R.size us (by simpa using hc) hm (by simpa using e2) (fun x hx => ?_) e3 ?_ fun i j x u a b hx hu ha hb => ?_
 ·simpa using this
 ·obtain ⟨a, ha, rfl⟩ := List.mem_map.1 hx
  obtain ⟨i, hi, rfl⟩ := List.getElem_of_mem ha
  have hlt : i < us.length := by omega
  have h1 := (e4 i l[i] us[i] (List.getElem?_eq_getElem hi) (List.getElem?_eq_getElem hlt)).1
  rw [← h1]
  exact e3 _ (List.getElem_mem hlt)
 ·by_cases h0 : us.flatten = []
  ·exact .inl h0
  ·obtain ⟨b, off, hA, hlt, hcell⟩ := hrow 0 (List.length_pos_iff.2 h0)
   refine .inr ⟨b, off, hA, hz b (List.mem_append_left _ ?_), hcell⟩
   rw [hA]
   simp [p3, h0]
 ·rw [List.getElem?_map] at hx
  obtain ⟨y, hy, rfl⟩ := Option.map_eq_some_iff.1 hx
  exact (e4 i y u hy hu).2 j a b ha hb
theorem az.bool : az Rep.bool fun b => [.pv (.bool b)] := by
 rintro w cs a F Z _ ⟨rfl, _⟩
 exact .one (.pv _ rfl)
end Go.Proofs.YtcmknngafflcnaaGreat
namespace Go.Proofs.YtcmknngafflcnaaGreat
open Go.RowKit
theorem AB.ofT {p : Bool} {X Y : Prop} (h : p = true) (hx : X) : AB p X Y := ⟨fun _ => hx, fun e => (by rw [h] at e; cases e)⟩
theorem AB.ofF {p : Bool} {X Y : Prop} (h : p = false) (hy : Y) : AB p X Y := ⟨fun e => (by rw [h] at e; cases e), fun _ => hy⟩
theorem bT {p : Bool} {X Y : Prop} (hx : X) (h : p = true := by assumption) : AB p X Y := AB.ofT h hx
theorem bF {p : Bool} {X Y : Prop} (hy : Y) (h : p = false := by assumption) : AB p X Y := AB.ofF h hy
theorem AOp.reads {E : ba} {S : bt} {o : Oper} {st : ASt} {K : ASt → Prop} (h : ∀ Z ρ a w, Sim E.W S Z ρ st a w → eR E Z ρ o a w fun v => co st o.dst v K) : AOp E S o st K := by
 refine ⟨fun a w Q hs => ?_⟩
 obtain ⟨Z, ρ, hs⟩ := hs
 exact fP hs (h Z ρ a w hs) Q
theorem AIx.mapF {α : Type} {enc : α → List AD} {l : List α} {k : Nat} {K : Nat → List AD → Prop} (hk : k < l.length) (h : ∀ _ : k < l.length, K k (enc l[k])) : AIx (l.map enc) (k : Int) K := AIx.map hk (h hk)
def eU (n : Int) : List AD := [.pv (.int .u8 n)]
theorem HP {Z : Nat → Prop} {w : World} {v u : Value} (h : bC Z w (.pv v) u) : u = v := by cases h; rfl
theorem zH {α β : Type} (f : α → β) : ∀ l : List α, (l.map fun x => [f x]).flatten = l.map f
 | [] => rfl
 | x :: r => by rw [List.map_cons, List.flatten_cons, zH f r]; rfl
theorem AOp.bytes {E : ba} {S : bt} {o : Oper} {st : ASt} {K : ASt → Prop} {src dst e : TypeId} {x : Operand} (l : List Int) (ho : o.op = .convert src dst x) (hs : E.P.underlying src = some (.slice e)) (he : E.P.underlying e = some (.int .u8)) (hd : E.P.underlying dst = some .string)
  (hx : aEv st x fun v => mZ st v fun xs => xs = l.map eU) (hk : co st o.dst (vS (strOfNums l)) K) : AOp E S o st K := by
 refine .reads fun Z ρ a w hsim => ?_
 obtain ⟨v, hv, hx⟩ := aR hsim hx
 obtain ⟨xs, A, cap, hval, hcap, rfl, s, us, h1, h2, h3, h4, h5⟩ := pS hsim hv hx
 have hlen : (l.map eU).length = l.length := by simp
 have hus : us = l.map fun n => [Value.int .u8 n] := by
  apply List.ext_getElem?
  intro i
  rw [List.getElem?_map]
  cases hl : l[i]? with
  | none => rw [List.getElem?_eq_none]; rfl; rw [h1, hlen]; exact List.getElem?_eq_none_iff.1 hl
  | some n =>
   have hlt : i < us.length := by rw [h1, hlen]; exact (List.getElem?_eq_some_iff.1 hl).1
   rw [List.getElem?_eq_getElem hlt]
   have hx : (l.map eU)[i]? = some (eU n) := by simp [hl]
   have hs1 : s = 1 := (h2 _ (List.mem_of_getElem? hx)).symm
   have hu := h3 us[i] (List.getElem_mem hlt)
   rw [hs1] at hu
   obtain ⟨y, hy⟩ := List.length_eq_one_iff.1 hu
   have := HP (h5 i 0 _ _ _ y hx (List.getElem?_eq_getElem hlt) rfl (by rw [hy]; rfl))
   simp [hy, this]
 have hfl : us.flatten = l.map (Value.int .u8) := by rw [hus]; exact zH (fun n => Value.int .u8 n) l
 rw [hfl] at h4
 rw [hlen] at hval
 refine ⟨_, _, bG rfl, ?_, hk⟩
 have key : (convert src dst (.slice A l.length cap)).run E.P w = .ok (.string (strOfNums l)) w := by
  rcases h4 with h4 | ⟨b, off, rfl, hc⟩
  ·have : l = [] := by simpa using h4
   subst this
   cases A with
   | none => exact run_convert_bytes_nil w src e hs he 0 cap dst hd
   | some ad =>
    have hl : (loadCells ad 0).run E.P w = .ok (([] : List Int).map (Value.int .u8)).toArray w := by
     have := run_loadCells_list (P := E.P) w ad [] (fun j v hj => by simp at hj)
     simpa using this
    rw [show ([] : List Int).length = 0 from rfl, run_convert_bytes_string w src dst e _ 0 cap hs he hd, run_bytesToString w _ 0 cap [] hl, foldl_push_bytes]
    simp [strOfNums, ByteArray.empty, ByteArray.emptyWithCapacity]
    rfl
  ·refine run_convert_bytes_arg w src e hs he b off l.length cap l rfl (fun i hi => ?_) dst hd
   refine (hc i _ ?_)
   simp [List.getD, hi]
 simp [execOp, ho, hval, key]
end Go.Proofs.YtcmknngafflcnaaGreat
namespace Go.Proofs.YtcmknngafflcnaaGreat
open Go.RowKit
def w5 (v : Value) : Option (DataW Value × List MemPlace) := some (.held v, [])
def atF (f : Int → Option Value) (x : Int) (z : DataW Value) : DataW Value := match f x with | some v => .held v | none => z
def Kf (P : Program) (k : TypeId) (N : Nat) (f : Int → Option Value) (w : World) (v : Value) : Prop :=
 ∃ b n D, v = .map (some b) ∧ n ≤ N ∧ w.ownsMap P k w5 b n D ∧ ∀ x : Int, (Lit.int .i64 x).wf = true → Maps.has D (.int .i64 x) = (f x).isSome ∧ ∀ z, D.atKey (.int .i64 x) z = atF f x z
def eL (P : Program) (k : TypeId) (N : Nat) (f : Int → Option Value) : AO := .any (Kf P k N f)
def mS (f : Int → Option Value) (x : Int) (v : Option Value) : Int → Option Value := fun y => if y = x then v else f y
theorem tj (f : Int → Option Value) (x : Int) (v : Option Value) : mS f x v x = v := if_pos rfl
theorem tk {f : Int → Option Value} {x y : Int} {v : Option Value} (h : y ≠ x) : mS f x v y = f y := if_neg h
section
variable {P : Program} {k : TypeId} {N : Nat} {f : Int → Option Value} {Z : Nat → Prop} {w : World} {ρ : Nat → Value} {id : Nat}
theorem yE {b n : Nat} {D : DataW Value} (hρ : ρ id = .map (some b)) (hn : n ≤ N) (h : w.ownsMap P k w5 b n D)
  (hf : ∀ x : Int, (Lit.int .i64 x).wf = true → Maps.has D (.int .i64 x) = (f x).isSome ∧ ∀ z, D.atKey (.int .i64 x) z = atF f x z) : cw Z w ρ id (eL P k N f) := by
 refine ⟨b, by rw [hρ]; rfl, h.lt, fun w' hw => ⟨b, n, D, hρ, hn, ?_, hf⟩⟩
 obtain ⟨es, clock, hb, r⟩ := h
 exact ⟨es, clock, hw.trans hb, r⟩
theorem uL (h : cw Z w ρ id (eL P k N f)) : ∃ b n D, ρ id = .map (some b) ∧ n ≤ N ∧ w.ownsMap P k w5 b n D ∧ ∀ x : Int, (Lit.int .i64 x).wf = true → Maps.has D (.int .i64 x) = (f x).isSome ∧ ∀ z, D.atKey (.int .i64 x) z = atF f x z := by
 obtain ⟨b, _, _, hq⟩ := h
 exact hq w rfl
end
section
variable {E : ba} {S : bt} {o : Oper} {st : ASt} {K : ASt → Prop} {k e : TypeId} {N : Nat} {f : Int → Option Value}
theorem AOp.makeMap {t : TypeId} {d : Tmp} (k : TypeId) (ho : o.op = .makeMap t none) (hd : o.dst = some d) (hk : sT st d (eL E.P k 0 fun _ => none) fun st => co st (some d) (.one (.own d)) K) : AOp E S o st K := by
 refine ⟨fun a w Q hs => ?_⟩
 obtain ⟨Z, ρ, hs⟩ := hs
 have hrun : (execOp a.eval o).run E.P w = .ok (.value (.map (some w.heap.size))) (w.alloc (.map #[] 0)) := by
  have := @run_makeMap E.P t w
  simp [execOp, ho, this]
 unfold Oper.wp
 rw [hrun]
 have hg := grownBy_alloc w (.map #[] 0) none
 have hrel : cw Z (w.alloc (.map #[] 0)) (fun i => if i = d then .map (some w.heap.size) else ρ i) d (eL E.P k 0 fun _ => none) :=
  yE (by simp) (Nat.le_refl _) (World.ownsMap_made w E.P k w5) fun x hx => ⟨rfl, fun z => rfl⟩
 have h1 := hs.renew d (.map (some w.heap.size)) (eL E.P k 0 fun _ => none) hg (by simp) (fun b hb => by simp [aZ] at hb; right; omega) hrel
 have h2 := eS hk
 have h3 := h1.put o.dst (x := .one (.own d)) (v := .map (some w.heap.size)) (q3 (by simp) rfl)
 rw [hd] at h3
 refine ⟨_, ?_, cY h2⟩
 rw [hd]
 exact ⟨Z, _, h3⟩
theorem uK {Z : Nat → Prop} {ρ : Nat → Value} {a : Act} {w : World} {t : TypeId} {x i : Operand} {ok : Bool} {id : Nat} {n : Int} {z : Value} (hs : Sim E.W S Z ρ st a w) (ho : o.op = .lookup t x i ok) (ht : E.P.underlying t = some (.map k e)) (hk : E.P.underlying k = some (.int .i64)) (hz : ∀ w, (zeroValue e).run E.P w = .ok z w)
  (hx : aEv st x fun v => v = .one (.own id)) (hi : aEv st i fun v => v = vI .i64 n) (hob : aOb st.ob id fun o => o = eL E.P k N f) (hn : (Lit.int .i64 n).wf = true) (r : AV) (hr : ∀ Z w ρ, bM Z w ρ r ((f n).getD z)) :
  ∃ u, bM Z w ρ (match (generalizing := false) ok with | true => .tup [r, vB (f n).isSome] | false => r) u ∧ (execOp a.eval o).run E.P w = .ok (.value u) w := by
 obtain ⟨vx, hvx, rfl⟩ := aR hs hx
 obtain ⟨vi, hvi, rfl⟩ := aR hs hi
 obtain ⟨ob, hob, rfl⟩ := bH hob
 obtain ⟨b, m, D, hρ, hm, hown, hf⟩ := uL (Z := Z) (w := w) (hs.ws.obj id _ hob)
 have e1 : a.eval x = .map (some b) := by
  cases hvx with
  | one _ _ h => exact h.1.trans hρ
 have e2 : a.eval i = .int .i64 n := bu hvi
 have hl := Maps.int_keyed hk
 have hkey := Maps.keyOf_int_mk hk hn
 have at_ : D.atKey (.int .i64 n) (.held z) = .held ((f n).getD z) := by
  rw [(hf n hn).2]; unfold atF; cases f n <;> rfl
 cases ok with
 | false =>
  obtain ⟨v, ps, hrun, hv⟩ := hown.lookup hl ht (hz w) (zd := .held z) (zp := []) rfl hkey
  have hv' : v = (f n).getD z := by
   simp only [w5, Option.some.injEq, Prod.mk.injEq] at hv
   rw [at_] at hv
   injection hv.1
  exact ⟨v, by rw [hv']; exact hr Z w ρ, by simp [execOp, ho, e1, e2, hrun]⟩
 | true =>
  obtain ⟨v, ps, hrun, hv⟩ := hown.look_ok hl ht (hz w) (zd := .held z) (zp := []) rfl hkey
  have hv' : v = (f n).getD z := by
   simp only [w5, Option.some.injEq, Prod.mk.injEq] at hv
   rw [at_] at hv
   injection hv.1
  refine ⟨.tuple #[v, .bool (Maps.has D (.int .i64 n))], ?_, by simp [execOp, ho, e1, e2, hrun]⟩
  have : (Value.tuple #[v, .bool (Maps.has D (.int .i64 n))]) = .tuple [v, .bool (Maps.has D (.int .i64 n))].toArray := rfl
  rw [this]
  refine .tup _ _ rfl fun j c u hc hu => ?_
  match j, hc, hu with
  | 0, hc, hu => simp at hc hu; subst hc hu; rw [hv']; exact hr Z w ρ
  | 1, hc, hu => simp at hc hu; subst hc hu; rw [(hf n hn).1]; exact bG rfl
  | j + 2, hc, _ => simp at hc
theorem AOp.look {t : TypeId} {x i : Operand} {ok : Bool} {id : Nat} {n : Int} {z : Value} (ho : o.op = .lookup t x i ok) (ht : E.P.underlying t = some (.map k e)) (hk : E.P.underlying k = some (.int .i64)) (hz : ∀ w, (zeroValue e).run E.P w = .ok z w)
  (hx : aEv st x fun v => v = .one (.own id)) (hi : aEv st i fun v => v = vI .i64 n) (hob : aOb st.ob id fun o => o = eL E.P k N f) (hn : (Lit.int .i64 n).wf = true) (r : AV) (hr : ∀ Z w ρ, bM Z w ρ r ((f n).getD z))
  (hK : co st o.dst (match (generalizing := false) ok with | true => .tup [r, vB (f n).isSome] | false => r) K) : AOp E S o st K := by
 refine .reads fun Z ρ a w hs => ?_
 obtain ⟨u, hu, hrun⟩ := uK hs ho ht hk hz hx hi hob hn r hr
 exact ⟨_, u, hu, hrun, hK⟩
theorem jl.look {K : AV → Prop} {t : TypeId} {x i : Operand} {ok : Bool} {id : Nat} {n : Int} {z : Value} (ho : o.op = .lookup t x i ok) (ht : E.P.underlying t = some (.map k e)) (hk : E.P.underlying k = some (.int .i64)) (hz : ∀ w, (zeroValue e).run E.P w = .ok z w)
  (hx : aEv st x fun v => v = .one (.own id)) (hi : aEv st i fun v => v = vI .i64 n) (hob : aOb st.ob id fun o => o = eL E.P k N f) (hn : (Lit.int .i64 n).wf = true) (r : AV) (hr : ∀ Z w ρ, bM Z w ρ r ((f n).getD z))
  (hK : K (match (generalizing := false) ok with | true => .tup [r, vB (f n).isSome] | false => r)) : jl E o st K :=
 ⟨_, hK, fun S Z ρ a w hs => uK hs ho ht hk hz hx hi hob hn r hr⟩
theorem AOp.mapPut {t : TypeId} {x i v : Operand} {id : Nat} {n : Int} {u : Value} (ho : o.op = .mapUpdate t x i v) (ht : E.P.underlying t = some (.map k e)) (hk : E.P.underlying k = some (.int .i64)) (hN : N < 9223372036854775807)
  (hx : aEv st x fun v => v = .one (.own id)) (hi : aEv st i fun v => v = vI .i64 n) (hob : aOb st.ob id fun o => o = eL E.P k N f) (hn : (Lit.int .i64 n).wf = true) (hv : aEv st v fun v => ∀ Z w ρ y, bM Z w ρ v y → y = u)
  (hK : dX id (eL E.P k (N + 1) (mS f n (some u))) st.ob fun ob => co ⟨st.tm, ob⟩ o.dst (.one .und) K) : AOp E S o st K := by
 refine ⟨fun a w Q hs => ?_⟩
 obtain ⟨Z, ρ, hs⟩ := hs
 obtain ⟨vx, hvx, rfl⟩ := aR hs hx
 obtain ⟨vi, hvi, rfl⟩ := aR hs hi
 obtain ⟨vv, hvv, huu⟩ := aR hs hv
 obtain ⟨ob, hob, rfl⟩ := bH hob
 obtain ⟨b, m, D, hρ, hm, hown, hf⟩ := uL (Z := Z) (w := w) (hs.ws.obj id _ hob)
 have e1 : a.eval x = .map (some b) := by
  cases hvx with
  | one _ _ h => exact h.1.trans hρ
 have e2 : a.eval i = .int .i64 n := bu hvi
 have e3 : a.eval v = u := huu Z w ρ _ hvv
 have hl := Maps.int_keyed hk
 have hkey := Maps.keyOf_int_mk hk hn
 obtain ⟨w', hrun, hown', hturn⟩ := hown.store hl ht (by unfold maxLen; omega) hkey (val := u) (d := .held u) (ps := []) rfl
 unfold Oper.wp
 simp only [execOp, ho, e1, e2, e3, Sem.run_bind, hrun, Result.andThen_ok, Sem.run_pure]
 have hrel : cw Z w' ρ id (eL E.P k (N + 1) (mS f n (some u))) := by
  refine yE hρ (by omega) hown' fun y hy => ?_
  by_cases hyn : y = n
  ·subst hyn
   refine ⟨by rw [Maps.has_put_same hown.isMap (hl.key hkey), tj]; rfl, fun z => ?_⟩
   rw [Maps.atKey_put_same hown.isMap (hl.key hkey)]; unfold atF; rw [tj]
  ·have hne : (Lit.int .i64 y) ≠ .int .i64 n := fun e => hyn (by injection e)
   refine ⟨by rw [Maps.has_put_other hne, tk hyn]; exact (hf y hy).1, fun z => ?_⟩
   rw [Maps.atKey_put_other hne, (hf y hy).2]; unfold atF; rw [tk hyn]
 have h1 := hs.upd id _ (eL E.P k (N + 1) (mS f n (some u))) hob (g := b) (by rw [hρ]; rfl) hturn.grown hrel
 exact ⟨_, ⟨Z, ρ, h1.put o.dst (x := .one .und) (v := undef) (.one _ _ (show eh Z w' ρ .und undef from rfl))⟩, cY (bX (K := fun ob => co ⟨st.tm, ob⟩ o.dst (.one .und) K) hK)⟩
theorem AOp.mapDel {t : TypeId} {x i : Operand} {id : Nat} {n : Int} {c : Go.Call} (ho : o.op = .call c) (hc : c = { callee := .builtin .delete, args := #[x, i], argTypes := #[t, k] }) (ht : E.P.underlying t = some (.map k e)) (hk : E.P.underlying k = some (.int .i64))
  (hx : aEv st x fun v => v = .one (.own id)) (hi : aEv st i fun v => v = vI .i64 n) (hob : aOb st.ob id fun o => o = eL E.P k N f) (hn : (Lit.int .i64 n).wf = true)
  (hK : dX id (eL E.P k N (mS f n none)) st.ob fun ob => co ⟨st.tm, ob⟩ o.dst (.one .dead) K) : AOp E S o st K := by
 subst hc
 refine ⟨fun a w Q hs => ?_⟩
 obtain ⟨Z, ρ, hs⟩ := hs
 obtain ⟨vx, hvx, rfl⟩ := aR hs hx
 obtain ⟨vi, hvi, rfl⟩ := aR hs hi
 obtain ⟨ob, hob, rfl⟩ := bH hob
 obtain ⟨b, m, D, hρ, hm, hown, hf⟩ := uL (Z := Z) (w := w) (hs.ws.obj id _ hob)
 have e1 : a.eval x = .map (some b) := by
  cases hvx with
  | one _ _ h => exact h.1.trans hρ
 have e2 : a.eval i = .int .i64 n := bu hvi
 have hl := Maps.int_keyed hk
 have hkey := Maps.keyOf_int_mk hk hn
 obtain ⟨w', hrun, hown', hturn⟩ := hown.drop hl ht hkey o.type
 have hrel : cw Z w' ρ id (eL E.P k N (mS f n none)) := by
  refine yE hρ hm hown' fun y hy => ?_
  by_cases hyn : y = n
  ·subst hyn
   refine ⟨by rw [Maps.has_del_same, tj]; rfl, fun z => ?_⟩
   rw [Maps.atKey_del_same]; unfold atF; rw [tj]
  ·have hne : (Lit.int .i64 y) ≠ .int .i64 n := fun e => hyn (by injection e)
   refine ⟨by rw [Maps.has_del_other hne, tk hyn]; exact (hf y hy).1, fun z => ?_⟩
   rw [Maps.atKey_del_other hne, (hf y hy).2]; unfold atF; rw [tk hyn]
 have h1 := hs.upd id _ (eL E.P k N (mS f n none)) hob (g := b) (by rw [hρ]; rfl) hturn.grown hrel
 unfold Oper.wp
 simp [execOp, ho, resolve, invoke, builtin, e1, e2, hrun, Result.andThen]
 exact ⟨_, ⟨Z, ρ, h1.put o.dst (x := .one .dead) (v := .tuple #[]) (.one _ _ trivial)⟩, cY (bX (K := fun ob => co ⟨st.tm, ob⟩ o.dst (.one .dead) K) hK)⟩
end
end Go.Proofs.YtcmknngafflcnaaGreat
namespace Go.Proofs.YtcmknngafflcnaaGreat
open Go.RowKit
theorem q5 {Z : Nat → Prop} {w : World} {ρ : Nat → Value} {v : Value} : ∀ {ds : List AD}, ds.all AD.isPv = true → bM Z w ρ (.agg (ds.map .d)) v → v = .agg (ds.map sW).toArray := by
 intro ds hp h
 cases h with
 | agg _ us hl h =>
  have : us = ds.map sW := by
   apply List.ext_getElem
   ·simpa using hl
   ·intro i h1 h2
    have hi : i < ds.length := by simpa using h2
    have hr := h i (.d ds[i]) us[i] (by simp [hi]) (by simp [h1])
    have := oX (List.all_eq_true.1 hp ds[i] (List.getElem_mem hi)) (show bC Z w ds[i] us[i] from hr)
    simpa using this
  rw [this]
end Go.Proofs.YtcmknngafflcnaaGreat
