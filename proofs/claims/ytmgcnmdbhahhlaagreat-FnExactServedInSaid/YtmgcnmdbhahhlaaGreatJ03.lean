/- Joined: Types AvQ EncF AvR AvMP AvPV -/
import Derived.Test.YtmgcnmdbhahhlaaGreatJ01
import Derived.Test.YtmgcnmdbhahhlaaGreatAvJ3
import Derived.Laws.BytesArg
import Derived.Laws.BytesString
import Derived.Maps.OwnSet
import Derived.Test.YtmgcnmdbhahhlaaGreatJ02
set_option linter.unusedVariables false
set_option linter.unusedSimpArgs false
set_option maxRecDepth 100000
namespace Go.Proofs.YtmgcnmdbhahhlaaGreat
open Go.ChangeShapes Go.WideShapes Go.RowKit

def Rep.via {α β : Type} (f : β → α) (R : Rep α) : Rep β where
  size := R.size
  rd := fun w cs b F => R.rd w cs (f b) F
  len := fun h => R.len h
  one := fun h => R.one h
  lt := fun h => R.lt h
  keep := fun h k => R.keep h k

theorem Rep.sl_cell {α : Type} {R : Rep α} {w : World} {cs : List Value} {l : List α} {F : List Nat} (h : R.sl.rd w cs l F) : ∃ A cap, cs = [.slice A l.length cap] := by
  obtain ⟨A, cap, xs, F1, rfl, _⟩ := h
  exact ⟨_, _, rfl⟩

structure DStep where
  kind : Int
  a : Int
  b : Int
  c : Int
  fates : (List Int)
  deriving DecidableEq
def Rep.DStep : Rep DStep := Rep.via (fun x => (x.kind, x.a, x.b, x.c, x.fates)) (Rep.pair (Rep.int .i64) (Rep.pair (Rep.int .i64) (Rep.pair (Rep.int .i64) (Rep.pair (Rep.int .i64) (Rep.sl (Rep.int .i64))))))
theorem DStep_open {w : World} {cs : List Value} {x : DStep} {F : List Nat} (h : Rep.DStep.rd w cs x F) : ∃ (A0 : Option Addr) (cap0 : Nat) (F0 : List Nat), cs = [.int .i64 x.kind, .int .i64 x.a, .int .i64 x.b, .int .i64 x.c, .slice A0 x.fates.length cap0] ∧ F = F0 ∧ (Lit.int .i64 x.kind).wf = true ∧ (Lit.int .i64 x.a).wf = true ∧ (Lit.int .i64 x.b).wf = true ∧ (Lit.int .i64 x.c).wf = true ∧ (Rep.sl (Rep.int .i64)).rd w [.slice A0 x.fates.length cap0] x.fates F0 := by
  simp only [Rep.DStep, Rep.via, Rep.pair] at h
  obtain ⟨c0, d0, G0, H0, rfl, rfl, ⟨rfl, w0, rfl⟩, ⟨c1, d1, G1, H1, rfl, rfl, ⟨rfl, w1, rfl⟩, ⟨c2, d2, G2, H2, rfl, rfl, ⟨rfl, w2, rfl⟩, ⟨c3, d3, G3, H3, rfl, rfl, ⟨rfl, w3, rfl⟩, h0⟩⟩⟩⟩ := h
  obtain ⟨A0, cap0, rfl⟩ := Rep.sl_cell h0
  exact ⟨A0, cap0, _, by simp, by simp, w0, w1, w2, w3, h0⟩
theorem DStep_make {w : World} {x : DStep} {A0 : Option Addr} {cap0 : Nat} {F0 : List Nat} (w0 : (Lit.int .i64 x.kind).wf = true) (w1 : (Lit.int .i64 x.a).wf = true) (w2 : (Lit.int .i64 x.b).wf = true) (w3 : (Lit.int .i64 x.c).wf = true) (h0 : (Rep.sl (Rep.int .i64)).rd w [.slice A0 x.fates.length cap0] x.fates F0) : Rep.DStep.rd w [.int .i64 x.kind, .int .i64 x.a, .int .i64 x.b, .int .i64 x.c, .slice A0 x.fates.length cap0] x (F0) := by
  simp only [Rep.DStep, Rep.via, Rep.pair]
  exact ⟨_, _, [], (F0), rfl, (by simp), ⟨rfl, w0, rfl⟩, ⟨_, _, [], (F0), rfl, (by simp), ⟨rfl, w1, rfl⟩, ⟨_, _, [], (F0), rfl, (by simp), ⟨rfl, w2, rfl⟩, ⟨_, _, [], (F0), rfl, (by simp), ⟨rfl, w3, rfl⟩, h0⟩⟩⟩⟩
theorem DStep_at {w : World} {A : Option Addr} {xs : List Value} {l : List DStep} {G : List Nat} (hr : Row w A xs) (ha : Rep.DStep.all w xs l G) {k : Nat} (hk : k < l.length) : ∃ (b off : Nat) (A0 : Option Addr) (cap0 : Nat) (F0 : List Nat), A = some ⟨b, off, none⟩ ∧ w.cell? ⟨b, off + k * 5, none⟩ = some (.int .i64 l[k].kind) ∧ w.cell? ⟨b, off + k * 5 + 1, none⟩ = some (.int .i64 l[k].a) ∧ w.cell? ⟨b, off + k * 5 + 2, none⟩ = some (.int .i64 l[k].b) ∧ w.cell? ⟨b, off + k * 5 + 3, none⟩ = some (.int .i64 l[k].c) ∧ w.cell? ⟨b, off + k * 5 + 4, none⟩ = some (.slice A0 l[k].fates.length cap0) ∧ (Lit.int .i64 l[k].kind).wf = true ∧ (Lit.int .i64 l[k].a).wf = true ∧ (Lit.int .i64 l[k].b).wf = true ∧ (Lit.int .i64 l[k].c).wf = true ∧ (Rep.sl (Rep.int .i64)).rd w [.slice A0 l[k].fates.length cap0] l[k].fates F0 ∧ (∀ g ∈ F0, g ∈ G) := by
  obtain ⟨b, off, cs, F, rfl, hrd, hF, hc⟩ := Rep.sl_at hr ha (by decide) hk
  obtain ⟨A0, cap0, F0, rfl, hFe, w0, w1, w2, w3, h0⟩ := DStep_open hrd
  rw [show Rep.DStep.size = 5 from rfl] at hc
  exact ⟨b, off, A0, cap0, F0, rfl, hc 0 _ rfl, hc 1 _ rfl, hc 2 _ rfl, hc 3 _ rfl, hc 4 _ rfl, w0, w1, w2, w3, h0, fun g hg => hF g (by rw [hFe]; simp [hg])⟩
theorem DStep_res {B : Nat} {w : World} {x : DStep} {A0 : Option Addr} {cap0 : Nat} {F0 : List Nat} (w0 : (Lit.int .i64 x.kind).wf = true) (w1 : (Lit.int .i64 x.a).wf = true) (w2 : (Lit.int .i64 x.b).wf = true) (w3 : (Lit.int .i64 x.c).wf = true) (h0 : Res (Rep.sl (Rep.int .i64)) B w [.slice A0 x.fates.length cap0] x.fates F0) : Res Rep.DStep B w [.int .i64 x.kind, .int .i64 x.a, .int .i64 x.b, .int .i64 x.c, .slice A0 x.fates.length cap0] x F0 :=
  ⟨DStep_make w0 w1 w2 w3 h0.rd, h0.fresh⟩

structure DOp where
  kind : Int
  a : Int
  b : Int
  c : Int
  d : Int
  deriving DecidableEq
def Rep.DOp : Rep DOp := Rep.via (fun x => (x.kind, x.a, x.b, x.c, x.d)) (Rep.pair (Rep.int .i64) (Rep.pair (Rep.int .i64) (Rep.pair (Rep.int .i64) (Rep.pair (Rep.int .i64) (Rep.int .i64)))))
theorem DOp_open {w : World} {cs : List Value} {x : DOp} {F : List Nat} (h : Rep.DOp.rd w cs x F) : cs = [.int .i64 x.kind, .int .i64 x.a, .int .i64 x.b, .int .i64 x.c, .int .i64 x.d] ∧ F = [] ∧ (Lit.int .i64 x.kind).wf = true ∧ (Lit.int .i64 x.a).wf = true ∧ (Lit.int .i64 x.b).wf = true ∧ (Lit.int .i64 x.c).wf = true ∧ (Lit.int .i64 x.d).wf = true := by
  simp only [Rep.DOp, Rep.via, Rep.pair] at h
  obtain ⟨c0, d0, G0, H0, rfl, rfl, ⟨rfl, w0, rfl⟩, ⟨c1, d1, G1, H1, rfl, rfl, ⟨rfl, w1, rfl⟩, ⟨c2, d2, G2, H2, rfl, rfl, ⟨rfl, w2, rfl⟩, ⟨c3, d3, G3, H3, rfl, rfl, ⟨rfl, w3, rfl⟩, ⟨rfl, w4, rfl⟩⟩⟩⟩⟩ := h
  exact ⟨by simp, by simp, w0, w1, w2, w3, w4⟩
theorem DOp_make {w : World} {x : DOp}  (w0 : (Lit.int .i64 x.kind).wf = true) (w1 : (Lit.int .i64 x.a).wf = true) (w2 : (Lit.int .i64 x.b).wf = true) (w3 : (Lit.int .i64 x.c).wf = true) (w4 : (Lit.int .i64 x.d).wf = true)  : Rep.DOp.rd w [.int .i64 x.kind, .int .i64 x.a, .int .i64 x.b, .int .i64 x.c, .int .i64 x.d] x ([]) := by
  simp only [Rep.DOp, Rep.via, Rep.pair]
  exact ⟨_, _, [], [], rfl, (by simp), ⟨rfl, w0, rfl⟩, ⟨_, _, [], [], rfl, (by simp), ⟨rfl, w1, rfl⟩, ⟨_, _, [], [], rfl, (by simp), ⟨rfl, w2, rfl⟩, ⟨_, _, [], [], rfl, (by simp), ⟨rfl, w3, rfl⟩, ⟨rfl, w4, rfl⟩⟩⟩⟩⟩
theorem DOp_at {w : World} {A : Option Addr} {xs : List Value} {l : List DOp} {G : List Nat} (hr : Row w A xs) (ha : Rep.DOp.all w xs l G) {k : Nat} (hk : k < l.length) : ∃ (b off : Nat), A = some ⟨b, off, none⟩ ∧ w.cell? ⟨b, off + k * 5, none⟩ = some (.int .i64 l[k].kind) ∧ w.cell? ⟨b, off + k * 5 + 1, none⟩ = some (.int .i64 l[k].a) ∧ w.cell? ⟨b, off + k * 5 + 2, none⟩ = some (.int .i64 l[k].b) ∧ w.cell? ⟨b, off + k * 5 + 3, none⟩ = some (.int .i64 l[k].c) ∧ w.cell? ⟨b, off + k * 5 + 4, none⟩ = some (.int .i64 l[k].d) ∧ (Lit.int .i64 l[k].kind).wf = true ∧ (Lit.int .i64 l[k].a).wf = true ∧ (Lit.int .i64 l[k].b).wf = true ∧ (Lit.int .i64 l[k].c).wf = true ∧ (Lit.int .i64 l[k].d).wf = true := by
  obtain ⟨b, off, cs, F, rfl, hrd, hF, hc⟩ := Rep.sl_at hr ha (by decide) hk
  obtain ⟨rfl, hFe, w0, w1, w2, w3, w4⟩ := DOp_open hrd
  rw [show Rep.DOp.size = 5 from rfl] at hc
  exact ⟨b, off, rfl, hc 0 _ rfl, hc 1 _ rfl, hc 2 _ rfl, hc 3 _ rfl, hc 4 _ rfl, w0, w1, w2, w3, w4⟩

structure DEntry where
  index : Int
  time : Int
  client : Int
  seq : Int
  op : DOp
  deriving DecidableEq
def Rep.DEntry : Rep DEntry := Rep.via (fun x => (x.index, x.time, x.client, x.seq, x.op)) (Rep.pair (Rep.int .i64) (Rep.pair (Rep.int .i64) (Rep.pair (Rep.int .i64) (Rep.pair (Rep.int .i64) Rep.DOp))))
theorem DEntry_open {w : World} {cs : List Value} {x : DEntry} {F : List Nat} (h : Rep.DEntry.rd w cs x F) : cs = [.int .i64 x.index, .int .i64 x.time, .int .i64 x.client, .int .i64 x.seq, .int .i64 x.op.kind, .int .i64 x.op.a, .int .i64 x.op.b, .int .i64 x.op.c, .int .i64 x.op.d] ∧ F = [] ∧ (Lit.int .i64 x.index).wf = true ∧ (Lit.int .i64 x.time).wf = true ∧ (Lit.int .i64 x.client).wf = true ∧ (Lit.int .i64 x.seq).wf = true ∧ (Lit.int .i64 x.op.kind).wf = true ∧ (Lit.int .i64 x.op.a).wf = true ∧ (Lit.int .i64 x.op.b).wf = true ∧ (Lit.int .i64 x.op.c).wf = true ∧ (Lit.int .i64 x.op.d).wf = true := by
  simp only [Rep.DEntry, Rep.via, Rep.pair, Rep.DOp] at h
  obtain ⟨c0, d0, G0, H0, rfl, rfl, ⟨rfl, w0, rfl⟩, ⟨c1, d1, G1, H1, rfl, rfl, ⟨rfl, w1, rfl⟩, ⟨c2, d2, G2, H2, rfl, rfl, ⟨rfl, w2, rfl⟩, ⟨c3, d3, G3, H3, rfl, rfl, ⟨rfl, w3, rfl⟩, ⟨c4, d4, G4, H4, rfl, rfl, ⟨rfl, w4, rfl⟩, ⟨c5, d5, G5, H5, rfl, rfl, ⟨rfl, w5, rfl⟩, ⟨c6, d6, G6, H6, rfl, rfl, ⟨rfl, w6, rfl⟩, ⟨c7, d7, G7, H7, rfl, rfl, ⟨rfl, w7, rfl⟩, ⟨rfl, w8, rfl⟩⟩⟩⟩⟩⟩⟩⟩⟩ := h
  exact ⟨by simp, by simp, w0, w1, w2, w3, w4, w5, w6, w7, w8⟩
theorem DEntry_make {w : World} {x : DEntry}  (w0 : (Lit.int .i64 x.index).wf = true) (w1 : (Lit.int .i64 x.time).wf = true) (w2 : (Lit.int .i64 x.client).wf = true) (w3 : (Lit.int .i64 x.seq).wf = true) (w4 : (Lit.int .i64 x.op.kind).wf = true) (w5 : (Lit.int .i64 x.op.a).wf = true) (w6 : (Lit.int .i64 x.op.b).wf = true) (w7 : (Lit.int .i64 x.op.c).wf = true) (w8 : (Lit.int .i64 x.op.d).wf = true)  : Rep.DEntry.rd w [.int .i64 x.index, .int .i64 x.time, .int .i64 x.client, .int .i64 x.seq, .int .i64 x.op.kind, .int .i64 x.op.a, .int .i64 x.op.b, .int .i64 x.op.c, .int .i64 x.op.d] x ([]) := by
  simp only [Rep.DEntry, Rep.via, Rep.pair, Rep.DOp]
  exact ⟨_, _, [], [], rfl, (by simp), ⟨rfl, w0, rfl⟩, ⟨_, _, [], [], rfl, (by simp), ⟨rfl, w1, rfl⟩, ⟨_, _, [], [], rfl, (by simp), ⟨rfl, w2, rfl⟩, ⟨_, _, [], [], rfl, (by simp), ⟨rfl, w3, rfl⟩, ⟨_, _, [], [], rfl, (by simp), ⟨rfl, w4, rfl⟩, ⟨_, _, [], [], rfl, (by simp), ⟨rfl, w5, rfl⟩, ⟨_, _, [], [], rfl, (by simp), ⟨rfl, w6, rfl⟩, ⟨_, _, [], [], rfl, (by simp), ⟨rfl, w7, rfl⟩, ⟨rfl, w8, rfl⟩⟩⟩⟩⟩⟩⟩⟩⟩
theorem DEntry_at {w : World} {A : Option Addr} {xs : List Value} {l : List DEntry} {G : List Nat} (hr : Row w A xs) (ha : Rep.DEntry.all w xs l G) {k : Nat} (hk : k < l.length) : ∃ (b off : Nat), A = some ⟨b, off, none⟩ ∧ w.cell? ⟨b, off + k * 9, none⟩ = some (.int .i64 l[k].index) ∧ w.cell? ⟨b, off + k * 9 + 1, none⟩ = some (.int .i64 l[k].time) ∧ w.cell? ⟨b, off + k * 9 + 2, none⟩ = some (.int .i64 l[k].client) ∧ w.cell? ⟨b, off + k * 9 + 3, none⟩ = some (.int .i64 l[k].seq) ∧ w.cell? ⟨b, off + k * 9 + 4, none⟩ = some (.int .i64 l[k].op.kind) ∧ w.cell? ⟨b, off + k * 9 + 5, none⟩ = some (.int .i64 l[k].op.a) ∧ w.cell? ⟨b, off + k * 9 + 6, none⟩ = some (.int .i64 l[k].op.b) ∧ w.cell? ⟨b, off + k * 9 + 7, none⟩ = some (.int .i64 l[k].op.c) ∧ w.cell? ⟨b, off + k * 9 + 8, none⟩ = some (.int .i64 l[k].op.d) ∧ (Lit.int .i64 l[k].index).wf = true ∧ (Lit.int .i64 l[k].time).wf = true ∧ (Lit.int .i64 l[k].client).wf = true ∧ (Lit.int .i64 l[k].seq).wf = true ∧ (Lit.int .i64 l[k].op.kind).wf = true ∧ (Lit.int .i64 l[k].op.a).wf = true ∧ (Lit.int .i64 l[k].op.b).wf = true ∧ (Lit.int .i64 l[k].op.c).wf = true ∧ (Lit.int .i64 l[k].op.d).wf = true := by
  obtain ⟨b, off, cs, F, rfl, hrd, hF, hc⟩ := Rep.sl_at hr ha (by decide) hk
  obtain ⟨rfl, hFe, w0, w1, w2, w3, w4, w5, w6, w7, w8⟩ := DEntry_open hrd
  rw [show Rep.DEntry.size = 9 from rfl] at hc
  exact ⟨b, off, rfl, hc 0 _ rfl, hc 1 _ rfl, hc 2 _ rfl, hc 3 _ rfl, hc 4 _ rfl, hc 5 _ rfl, hc 6 _ rfl, hc 7 _ rfl, hc 8 _ rfl, w0, w1, w2, w3, w4, w5, w6, w7, w8⟩

structure DMsg where
  frm : Int
  to_ : Int
  row : (List Int)
  deriving DecidableEq
def Rep.DMsg : Rep DMsg := Rep.via (fun x => (x.frm, x.to_, x.row)) (Rep.pair (Rep.int .i64) (Rep.pair (Rep.int .i64) (Rep.sl (Rep.int .i64))))
theorem DMsg_open {w : World} {cs : List Value} {x : DMsg} {F : List Nat} (h : Rep.DMsg.rd w cs x F) : ∃ (A0 : Option Addr) (cap0 : Nat) (F0 : List Nat), cs = [.int .i64 x.frm, .int .i64 x.to_, .slice A0 x.row.length cap0] ∧ F = F0 ∧ (Lit.int .i64 x.frm).wf = true ∧ (Lit.int .i64 x.to_).wf = true ∧ (Rep.sl (Rep.int .i64)).rd w [.slice A0 x.row.length cap0] x.row F0 := by
  simp only [Rep.DMsg, Rep.via, Rep.pair] at h
  obtain ⟨c0, d0, G0, H0, rfl, rfl, ⟨rfl, w0, rfl⟩, ⟨c1, d1, G1, H1, rfl, rfl, ⟨rfl, w1, rfl⟩, h0⟩⟩ := h
  obtain ⟨A0, cap0, rfl⟩ := Rep.sl_cell h0
  exact ⟨A0, cap0, _, by simp, by simp, w0, w1, h0⟩
theorem DMsg_make {w : World} {x : DMsg} {A0 : Option Addr} {cap0 : Nat} {F0 : List Nat} (w0 : (Lit.int .i64 x.frm).wf = true) (w1 : (Lit.int .i64 x.to_).wf = true) (h0 : (Rep.sl (Rep.int .i64)).rd w [.slice A0 x.row.length cap0] x.row F0) : Rep.DMsg.rd w [.int .i64 x.frm, .int .i64 x.to_, .slice A0 x.row.length cap0] x (F0) := by
  simp only [Rep.DMsg, Rep.via, Rep.pair]
  exact ⟨_, _, [], (F0), rfl, (by simp), ⟨rfl, w0, rfl⟩, ⟨_, _, [], (F0), rfl, (by simp), ⟨rfl, w1, rfl⟩, h0⟩⟩
theorem DMsg_at {w : World} {A : Option Addr} {xs : List Value} {l : List DMsg} {G : List Nat} (hr : Row w A xs) (ha : Rep.DMsg.all w xs l G) {k : Nat} (hk : k < l.length) : ∃ (b off : Nat) (A0 : Option Addr) (cap0 : Nat) (F0 : List Nat), A = some ⟨b, off, none⟩ ∧ w.cell? ⟨b, off + k * 3, none⟩ = some (.int .i64 l[k].frm) ∧ w.cell? ⟨b, off + k * 3 + 1, none⟩ = some (.int .i64 l[k].to_) ∧ w.cell? ⟨b, off + k * 3 + 2, none⟩ = some (.slice A0 l[k].row.length cap0) ∧ (Lit.int .i64 l[k].frm).wf = true ∧ (Lit.int .i64 l[k].to_).wf = true ∧ (Rep.sl (Rep.int .i64)).rd w [.slice A0 l[k].row.length cap0] l[k].row F0 ∧ (∀ g ∈ F0, g ∈ G) := by
  obtain ⟨b, off, cs, F, rfl, hrd, hF, hc⟩ := Rep.sl_at hr ha (by decide) hk
  obtain ⟨A0, cap0, F0, rfl, hFe, w0, w1, h0⟩ := DMsg_open hrd
  rw [show Rep.DMsg.size = 3 from rfl] at hc
  exact ⟨b, off, A0, cap0, F0, rfl, hc 0 _ rfl, hc 1 _ rfl, hc 2 _ rfl, w0, w1, h0, fun g hg => hF g (by rw [hFe]; simp [hg])⟩
theorem DMsg_res {B : Nat} {w : World} {x : DMsg} {A0 : Option Addr} {cap0 : Nat} {F0 : List Nat} (w0 : (Lit.int .i64 x.frm).wf = true) (w1 : (Lit.int .i64 x.to_).wf = true) (h0 : Res (Rep.sl (Rep.int .i64)) B w [.slice A0 x.row.length cap0] x.row F0) : Res Rep.DMsg B w [.int .i64 x.frm, .int .i64 x.to_, .slice A0 x.row.length cap0] x F0 :=
  ⟨DMsg_make w0 w1 h0.rd, h0.fresh⟩

structure DLink where
  a : Int
  b : Int
  deriving DecidableEq
def Rep.DLink : Rep DLink := Rep.via (fun x => (x.a, x.b)) (Rep.pair (Rep.int .i64) (Rep.int .i64))
theorem DLink_open {w : World} {cs : List Value} {x : DLink} {F : List Nat} (h : Rep.DLink.rd w cs x F) : cs = [.int .i64 x.a, .int .i64 x.b] ∧ F = [] ∧ (Lit.int .i64 x.a).wf = true ∧ (Lit.int .i64 x.b).wf = true := by
  simp only [Rep.DLink, Rep.via, Rep.pair] at h
  obtain ⟨c0, d0, G0, H0, rfl, rfl, ⟨rfl, w0, rfl⟩, ⟨rfl, w1, rfl⟩⟩ := h
  exact ⟨by simp, by simp, w0, w1⟩
theorem DLink_make {w : World} {x : DLink}  (w0 : (Lit.int .i64 x.a).wf = true) (w1 : (Lit.int .i64 x.b).wf = true)  : Rep.DLink.rd w [.int .i64 x.a, .int .i64 x.b] x ([]) := by
  simp only [Rep.DLink, Rep.via, Rep.pair]
  exact ⟨_, _, [], [], rfl, (by simp), ⟨rfl, w0, rfl⟩, ⟨rfl, w1, rfl⟩⟩
theorem DLink_at {w : World} {A : Option Addr} {xs : List Value} {l : List DLink} {G : List Nat} (hr : Row w A xs) (ha : Rep.DLink.all w xs l G) {k : Nat} (hk : k < l.length) : ∃ (b off : Nat), A = some ⟨b, off, none⟩ ∧ w.cell? ⟨b, off + k * 2, none⟩ = some (.int .i64 l[k].a) ∧ w.cell? ⟨b, off + k * 2 + 1, none⟩ = some (.int .i64 l[k].b) ∧ (Lit.int .i64 l[k].a).wf = true ∧ (Lit.int .i64 l[k].b).wf = true := by
  obtain ⟨b, off, cs, F, rfl, hrd, hF, hc⟩ := Rep.sl_at hr ha (by decide) hk
  obtain ⟨rfl, hFe, w0, w1⟩ := DLink_open hrd
  rw [show Rep.DLink.size = 2 from rfl] at hc
  exact ⟨b, off, rfl, hc 0 _ rfl, hc 1 _ rfl, w0, w1⟩

structure DNet where
  flight : (List DMsg)
  cuts : (List DLink)
  deriving DecidableEq
def Rep.DNet : Rep DNet := Rep.via (fun x => (x.flight, x.cuts)) (Rep.pair (Rep.sl Rep.DMsg) (Rep.sl Rep.DLink))
theorem DNet_open {w : World} {cs : List Value} {x : DNet} {F : List Nat} (h : Rep.DNet.rd w cs x F) : ∃ (A0 : Option Addr) (cap0 : Nat) (A1 : Option Addr) (cap1 : Nat) (F0 F1 : List Nat), cs = [.slice A0 x.flight.length cap0, .slice A1 x.cuts.length cap1] ∧ F = F0 ++ F1 ∧ (Rep.sl Rep.DMsg).rd w [.slice A0 x.flight.length cap0] x.flight F0 ∧ (Rep.sl Rep.DLink).rd w [.slice A1 x.cuts.length cap1] x.cuts F1 := by
  simp only [Rep.DNet, Rep.via, Rep.pair] at h
  obtain ⟨c0, d0, G0, H0, rfl, rfl, h0, h1⟩ := h
  obtain ⟨A0, cap0, rfl⟩ := Rep.sl_cell h0
  obtain ⟨A1, cap1, rfl⟩ := Rep.sl_cell h1
  exact ⟨A0, cap0, A1, cap1, _, _, by simp, by simp, h0, h1⟩
theorem DNet_make {w : World} {x : DNet} {A0 : Option Addr} {cap0 : Nat} {F0 : List Nat} {A1 : Option Addr} {cap1 : Nat} {F1 : List Nat}  (h0 : (Rep.sl Rep.DMsg).rd w [.slice A0 x.flight.length cap0] x.flight F0) (h1 : (Rep.sl Rep.DLink).rd w [.slice A1 x.cuts.length cap1] x.cuts F1) : Rep.DNet.rd w [.slice A0 x.flight.length cap0, .slice A1 x.cuts.length cap1] x (F0 ++ F1) := by
  simp only [Rep.DNet, Rep.via, Rep.pair]
  exact ⟨_, _, (F0), (F1), rfl, (by simp), h0, h1⟩
theorem DNet_at {w : World} {A : Option Addr} {xs : List Value} {l : List DNet} {G : List Nat} (hr : Row w A xs) (ha : Rep.DNet.all w xs l G) {k : Nat} (hk : k < l.length) : ∃ (b off : Nat) (A0 : Option Addr) (cap0 : Nat) (A1 : Option Addr) (cap1 : Nat) (F0 F1 : List Nat), A = some ⟨b, off, none⟩ ∧ w.cell? ⟨b, off + k * 2, none⟩ = some (.slice A0 l[k].flight.length cap0) ∧ w.cell? ⟨b, off + k * 2 + 1, none⟩ = some (.slice A1 l[k].cuts.length cap1) ∧ (Rep.sl Rep.DMsg).rd w [.slice A0 l[k].flight.length cap0] l[k].flight F0 ∧ (Rep.sl Rep.DLink).rd w [.slice A1 l[k].cuts.length cap1] l[k].cuts F1 ∧ (∀ g ∈ F0, g ∈ G) ∧ (∀ g ∈ F1, g ∈ G) := by
  obtain ⟨b, off, cs, F, rfl, hrd, hF, hc⟩ := Rep.sl_at hr ha (by decide) hk
  obtain ⟨A0, cap0, A1, cap1, F0, F1, rfl, hFe, h0, h1⟩ := DNet_open hrd
  rw [show Rep.DNet.size = 2 from rfl] at hc
  exact ⟨b, off, A0, cap0, A1, cap1, F0, F1, rfl, hc 0 _ rfl, hc 1 _ rfl, h0, h1, fun g hg => hF g (by rw [hFe]; simp [hg]), fun g hg => hF g (by rw [hFe]; simp [hg])⟩

structure DWant where
  kind : Int
  op : DOp
  key : Int
  deriving DecidableEq
def Rep.DWant : Rep DWant := Rep.via (fun x => (x.kind, x.op, x.key)) (Rep.pair (Rep.int .i64) (Rep.pair Rep.DOp (Rep.int .i64)))
theorem DWant_open {w : World} {cs : List Value} {x : DWant} {F : List Nat} (h : Rep.DWant.rd w cs x F) : cs = [.int .i64 x.kind, .int .i64 x.op.kind, .int .i64 x.op.a, .int .i64 x.op.b, .int .i64 x.op.c, .int .i64 x.op.d, .int .i64 x.key] ∧ F = [] ∧ (Lit.int .i64 x.kind).wf = true ∧ (Lit.int .i64 x.op.kind).wf = true ∧ (Lit.int .i64 x.op.a).wf = true ∧ (Lit.int .i64 x.op.b).wf = true ∧ (Lit.int .i64 x.op.c).wf = true ∧ (Lit.int .i64 x.op.d).wf = true ∧ (Lit.int .i64 x.key).wf = true := by
  simp only [Rep.DWant, Rep.via, Rep.pair, Rep.DOp] at h
  obtain ⟨c0, d0, G0, H0, rfl, rfl, ⟨rfl, w0, rfl⟩, ⟨c1, d1, G1, H1, rfl, rfl, ⟨c2, d2, G2, H2, rfl, rfl, ⟨rfl, w1, rfl⟩, ⟨c3, d3, G3, H3, rfl, rfl, ⟨rfl, w2, rfl⟩, ⟨c4, d4, G4, H4, rfl, rfl, ⟨rfl, w3, rfl⟩, ⟨c5, d5, G5, H5, rfl, rfl, ⟨rfl, w4, rfl⟩, ⟨rfl, w5, rfl⟩⟩⟩⟩⟩, ⟨rfl, w6, rfl⟩⟩⟩ := h
  exact ⟨by simp, by simp, w0, w1, w2, w3, w4, w5, w6⟩
theorem DWant_make {w : World} {x : DWant}  (w0 : (Lit.int .i64 x.kind).wf = true) (w1 : (Lit.int .i64 x.op.kind).wf = true) (w2 : (Lit.int .i64 x.op.a).wf = true) (w3 : (Lit.int .i64 x.op.b).wf = true) (w4 : (Lit.int .i64 x.op.c).wf = true) (w5 : (Lit.int .i64 x.op.d).wf = true) (w6 : (Lit.int .i64 x.key).wf = true)  : Rep.DWant.rd w [.int .i64 x.kind, .int .i64 x.op.kind, .int .i64 x.op.a, .int .i64 x.op.b, .int .i64 x.op.c, .int .i64 x.op.d, .int .i64 x.key] x ([]) := by
  simp only [Rep.DWant, Rep.via, Rep.pair, Rep.DOp]
  exact ⟨_, _, [], [], rfl, (by simp), ⟨rfl, w0, rfl⟩, ⟨_, _, [], [], rfl, (by simp), ⟨_, _, [], [], rfl, (by simp), ⟨rfl, w1, rfl⟩, ⟨_, _, [], [], rfl, (by simp), ⟨rfl, w2, rfl⟩, ⟨_, _, [], [], rfl, (by simp), ⟨rfl, w3, rfl⟩, ⟨_, _, [], [], rfl, (by simp), ⟨rfl, w4, rfl⟩, ⟨rfl, w5, rfl⟩⟩⟩⟩⟩, ⟨rfl, w6, rfl⟩⟩⟩
theorem DWant_at {w : World} {A : Option Addr} {xs : List Value} {l : List DWant} {G : List Nat} (hr : Row w A xs) (ha : Rep.DWant.all w xs l G) {k : Nat} (hk : k < l.length) : ∃ (b off : Nat), A = some ⟨b, off, none⟩ ∧ w.cell? ⟨b, off + k * 7, none⟩ = some (.int .i64 l[k].kind) ∧ w.cell? ⟨b, off + k * 7 + 1, none⟩ = some (.int .i64 l[k].op.kind) ∧ w.cell? ⟨b, off + k * 7 + 2, none⟩ = some (.int .i64 l[k].op.a) ∧ w.cell? ⟨b, off + k * 7 + 3, none⟩ = some (.int .i64 l[k].op.b) ∧ w.cell? ⟨b, off + k * 7 + 4, none⟩ = some (.int .i64 l[k].op.c) ∧ w.cell? ⟨b, off + k * 7 + 5, none⟩ = some (.int .i64 l[k].op.d) ∧ w.cell? ⟨b, off + k * 7 + 6, none⟩ = some (.int .i64 l[k].key) ∧ (Lit.int .i64 l[k].kind).wf = true ∧ (Lit.int .i64 l[k].op.kind).wf = true ∧ (Lit.int .i64 l[k].op.a).wf = true ∧ (Lit.int .i64 l[k].op.b).wf = true ∧ (Lit.int .i64 l[k].op.c).wf = true ∧ (Lit.int .i64 l[k].op.d).wf = true ∧ (Lit.int .i64 l[k].key).wf = true := by
  obtain ⟨b, off, cs, F, rfl, hrd, hF, hc⟩ := Rep.sl_at hr ha (by decide) hk
  obtain ⟨rfl, hFe, w0, w1, w2, w3, w4, w5, w6⟩ := DWant_open hrd
  rw [show Rep.DWant.size = 7 from rfl] at hc
  exact ⟨b, off, rfl, hc 0 _ rfl, hc 1 _ rfl, hc 2 _ rfl, hc 3 _ rfl, hc 4 _ rfl, hc 5 _ rfl, hc 6 _ rfl, w0, w1, w2, w3, w4, w5, w6⟩

end Go.Proofs.YtmgcnmdbhahhlaaGreat
namespace Go.Proofs.YtmgcnmdbhahhlaaGreat
open Go.RowKit

def RelCs (Z : Nat → Prop) (w : World) (ds : List AD) (cs : List Value) : Prop := cs.length = ds.length ∧ ∀ (i : Nat) d u, ds[i]? = some d → cs[i]? = some u → RelD Z w d u
theorem RelCs.append {Z : Nat → Prop} {w : World} {ds es : List AD} {cs bs : List Value} (h : RelCs Z w ds cs) (h' : RelCs Z w es bs) : RelCs Z w (ds ++ es) (cs ++ bs) := by
  refine ⟨by simp [h.1, h'.1], fun i d u hd hu => ?_⟩
  by_cases hi : i < ds.length
  · rw [List.getElem?_append_left hi] at hd
    rw [List.getElem?_append_left (by rw [h.1]; exact hi)] at hu
    exact h.2 i d u hd hu
  · rw [List.getElem?_append_right (by omega)] at hd
    rw [List.getElem?_append_right (by rw [h.1]; omega), h.1] at hu
    exact h'.2 _ d u hd hu
theorem RelCs.one {Z : Nat → Prop} {w : World} {d : AD} {u : Value} (h : RelD Z w d u) : RelCs Z w [d] [u] := ⟨rfl, fun i x y hx hy => by
  cases i with
  | zero => simp at hx hy; subst hx hy; exact h
  | succ i => simp at hx⟩
/-- What reads by R reads as the data enc. -/
def Enc {α : Type} (R : Rep α) (enc : α → List AD) : Prop := ∀ {w cs a F}, R.rd w cs a F → RelCs (fun b => b < w.heap.size) w (enc a) cs
theorem Enc.int {k : IntKind} : Enc (Rep.int k) fun n => [.pv (.int k n)] := by
  rintro w cs a F ⟨rfl, _, _⟩
  exact .one (.pv _ rfl)
theorem Enc.bool : Enc Rep.bool fun b => [.pv (.bool b)] := by
  rintro w cs a F ⟨rfl, _⟩
  exact .one (.pv _ rfl)
theorem Enc.str : Enc Rep.str fun b => [.pv (.string b)] := by
  rintro w cs a F ⟨rfl, _⟩
  exact .one (.pv _ rfl)
theorem Enc.pair {α β : Type} {R : Rep α} {S : Rep β} {f : α → List AD} {g : β → List AD} (h : Enc R f) (h' : Enc S g) : Enc (Rep.pair R S) fun x => f x.1 ++ g x.2 := by
  rintro w cs a F ⟨c1, c2, F1, F2, rfl, rfl, h1, h2⟩
  exact (h h1).append (h' h2)
theorem Enc.via {α β : Type} {R : Rep α} {f : β → α} {g : α → List AD} (h : Enc R g) : Enc (Rep.via f R) fun x => g (f x) := fun hr => h hr
theorem Enc.all {α : Type} {R : Rep α} {f : α → List AD} (h : Enc R f) {w : World} : ∀ {l : List α} {xs : List Value} {F : List Nat}, R.all w xs l F → ∃ us : List (List Value), us.flatten = xs ∧ us.length = l.length ∧ (∀ u ∈ us, u.length = R.size) ∧
    ∀ (i : Nat) a u, l[i]? = some a → us[i]? = some u → RelCs (fun b => b < w.heap.size) w (f a) u
  | [], _, _, ⟨rfl, _⟩ => ⟨[], rfl, rfl, by simp, by simp⟩
  | a :: l, _, _, ⟨c1, c2, F1, F2, rfl, rfl, h1, h2⟩ => by
    obtain ⟨us, e1, e2, e3, e4⟩ := Enc.all h h2
    refine ⟨c1 :: us, by simp [e1], by simp [e2], fun u hu => ?_, fun i b u hb hu => ?_⟩
    · rcases List.mem_cons.1 hu with rfl | hu
      · exact R.len h1
      · exact e3 u hu
    · cases i with
      | zero => simp at hb hu; subst hb hu; exact h h1
      | succ i => exact e4 i b u (by simpa using hb) (by simpa using hu)
theorem Enc.len {α : Type} {R : Rep α} {f : α → List AD} (h : Enc R f) {w cs a F} (hr : R.rd w cs a F) : (f a).length = R.size := by rw [← (h hr).1, R.len hr]
theorem Enc.sl {α : Type} {R : Rep α} {f : α → List AD} (h : Enc R f) : Enc (Rep.sl R) fun l => [.sl (l.map f)] := by
  rintro w cs l F ⟨A, cap, xs, F1, rfl, hc, hm, hrow, hall, rfl⟩
  obtain ⟨us, rfl, e2, e3, e4⟩ := Enc.all h hall
  refine .one ?_
  have := RelD.sl (Z := fun b => b < w.heap.size) (w := w) (l.map f) A cap R.size us (by simpa using hc) hm (by simpa using e2) (fun x hx => ?_) e3 ?_ fun i j x u a b hx hu ha hb => ?_
  · simpa using this
  · obtain ⟨a, ha, rfl⟩ := List.mem_map.1 hx
    obtain ⟨i, hi, rfl⟩ := List.getElem_of_mem ha
    have hlt : i < us.length := by omega
    have h1 := (e4 i l[i] us[i] (List.getElem?_eq_getElem hi) (List.getElem?_eq_getElem hlt)).1
    rw [← h1]
    exact e3 _ (List.getElem_mem hlt)
  · by_cases h0 : us.flatten = []
    · exact .inl h0
    · obtain ⟨b, off, hA, hlt, hcell⟩ := hrow 0 (List.length_pos_iff.2 h0)
      exact .inr ⟨b, off, hA, hlt, hcell⟩
  · rw [List.getElem?_map] at hx
    obtain ⟨y, hy, rfl⟩ := Option.map_eq_some_iff.1 hx
    exact (e4 i y u hy hu).2 j a b ha hb
theorem Enc.agg {α : Type} {R : Rep α} {f : α → List AD} (h : Enc R f) {w : World} {cs : Array Value} {a : α} {F : List Nat} (hr : R.rd w cs.toList a F) : RelP1 (fun b => b < w.heap.size) w (.agg (f a)) (.agg cs) :=
  ⟨cs.toList, by simp, (h hr).1, (h hr).2⟩
theorem Enc.cell {α : Type} {R : Rep α} {f : α → AD} (h : Enc R fun a => [f a]) {w : World} {v : Value} {a : α} {F : List Nat} (hr : R.rd w [v] a F) : RelP1 (fun b => b < w.heap.size) w (.one (f a)) v :=
  (h hr).2 0 _ _ rfl rfl

/-- A law's walk out of its contract. -/
theorem PCall.walk {E : AEnv} {f : FuncId} {args : List AP1} {p : Bool} (h : PCall E f args (.val (.one (.pv (.bool p))))) {W : World} (hT : E.W W) {us : Array Value} (hl : us.size = args.length) (hr : ∀ (i : Nat) p u, args[i]? = some p → us.toList[i]? = some u → RelP1 (fun b => b < W.heap.size) W p u) :
    Calls E.P f us W fun e W' => e = .returned (.bool p) ∧ Below W.heap.size W W' := by
  have := h.run (fun b => b < W.heap.size) W us.toList (fun _ hb => hb) ⟨W, hT, Below.refl _ _, fun _ hb => hb⟩ (by simpa using hl) hr
  rw [Array.toArray_toList] at this
  refine this.mono ?_
  rintro e w' ⟨v, Z', rfl, hb, _, _, hv⟩
  have hv' : RelD Z' w' (.pv (.bool p)) v := hv
  cases hv' with
  | pv => exact ⟨rfl, hb⟩
end Go.Proofs.YtmgcnmdbhahhlaaGreat
namespace Go.Proofs.YtmgcnmdbhahhlaaGreat
open Go.RowKit

/-- What reads by R is data in its own blocks. -/
def EncF {α : Type} (R : Rep α) (enc : α → List AD) : Prop := ∀ {w cs a F} {Z : Nat → Prop}, (∀ b ∈ F, Z b) → R.rd w cs a F → RelCs Z w (enc a) cs
theorem EncF.int {k : IntKind} : EncF (Rep.int k) fun n => [.pv (.int k n)] := by
  rintro w cs a F Z _ ⟨rfl, _, _⟩
  exact .one (.pv _ rfl)
theorem EncF.pair {α β : Type} {R : Rep α} {S : Rep β} {f : α → List AD} {g : β → List AD} (h : EncF R f) (h' : EncF S g) : EncF (Rep.pair R S) fun x => f x.1 ++ g x.2 := by
  rintro w cs a F Z hz ⟨c1, c2, F1, F2, rfl, rfl, h1, h2⟩
  exact (h (fun b hb => hz b (List.mem_append_left _ hb)) h1).append (h' (fun b hb => hz b (List.mem_append_right _ hb)) h2)
theorem EncF.via {α β : Type} {R : Rep α} {f : β → α} {g : α → List AD} (h : EncF R g) : EncF (Rep.via f R) fun x => g (f x) := fun hz hr => h hz hr
theorem EncF.all {α : Type} {R : Rep α} {f : α → List AD} (h : EncF R f) {w : World} {Z : Nat → Prop} : ∀ {l : List α} {xs : List Value} {F : List Nat}, (∀ b ∈ F, Z b) → R.all w xs l F → ∃ us : List (List Value), us.flatten = xs ∧ us.length = l.length ∧ (∀ u ∈ us, u.length = R.size) ∧
    ∀ (i : Nat) a u, l[i]? = some a → us[i]? = some u → RelCs Z w (f a) u
  | [], _, _, _, ⟨rfl, _⟩ => ⟨[], rfl, rfl, by simp, by simp⟩
  | a :: l, xs, F, hz, h0 => by
    obtain ⟨c1, c2, F1, F2, e1, e2, h1, h2⟩ := h0
    subst e1 e2
    obtain ⟨us, e1, e2, e3, e4⟩ := EncF.all h (fun b hb => hz b (List.mem_append_right _ hb)) h2
    refine ⟨c1 :: us, by simp [e1], by simp [e2], fun u hu => ?_, fun i b u hb hu => ?_⟩
    · rcases List.mem_cons.1 hu with rfl | hu
      · exact R.len h1
      · exact e3 u hu
    · cases i with
      | zero => simp at hb hu; subst hb hu; exact h (fun b hb => hz b (List.mem_append_left _ hb)) h1
      | succ i => exact e4 i b u (by simpa using hb) (by simpa using hu)
theorem EncF.sl {α : Type} {R : Rep α} {f : α → List AD} (h : EncF R f) : EncF (Rep.sl R) fun l => [.sl (l.map f)] := by
  rintro w cs l F Z hz ⟨A, cap, xs, F1, rfl, hc, hm, hrow, hall, rfl⟩
  obtain ⟨us, rfl, e2, e3, e4⟩ := EncF.all h (fun b hb => hz b (List.mem_append_right _ hb)) hall
  refine .one ?_
  have := RelD.sl (Z := Z) (w := w) (l.map f) A cap R.size us (by simpa using hc) hm (by simpa using e2) (fun x hx => ?_) e3 ?_ fun i j x u a b hx hu ha hb => ?_
  · simpa using this
  · obtain ⟨a, ha, rfl⟩ := List.mem_map.1 hx
    obtain ⟨i, hi, rfl⟩ := List.getElem_of_mem ha
    have hlt : i < us.length := by omega
    have h1 := (e4 i l[i] us[i] (List.getElem?_eq_getElem hi) (List.getElem?_eq_getElem hlt)).1
    rw [← h1]
    exact e3 _ (List.getElem_mem hlt)
  · by_cases h0 : us.flatten = []
    · exact .inl h0
    · obtain ⟨b, off, hA, hlt, hcell⟩ := hrow 0 (List.length_pos_iff.2 h0)
      refine .inr ⟨b, off, hA, hz b (List.mem_append_left _ ?_), hcell⟩
      rw [hA]
      simp [headOf, h0]
  · rw [List.getElem?_map] at hx
    obtain ⟨y, hy, rfl⟩ := Option.map_eq_some_iff.1 hx
    exact (e4 i y u hy hu).2 j a b ha hb
theorem EncF.bool : EncF Rep.bool fun b => [.pv (.bool b)] := by
  rintro w cs a F Z _ ⟨rfl, _⟩
  exact .one (.pv _ rfl)
end Go.Proofs.YtmgcnmdbhahhlaaGreat
namespace Go.Proofs.YtmgcnmdbhahhlaaGreat
open Go.RowKit

theorem AB.ofT {p : Bool} {X Y : Prop} (h : p = true) (hx : X) : AB p X Y := ⟨fun _ => hx, fun e => (by rw [h] at e; cases e)⟩
theorem AB.ofF {p : Bool} {X Y : Prop} (h : p = false) (hy : Y) : AB p X Y := ⟨fun e => (by rw [h] at e; cases e), fun _ => hy⟩
theorem bT {p : Bool} {X Y : Prop} (hx : X) (h : p = true := by assumption) : AB p X Y := AB.ofT h hx
theorem bF {p : Bool} {X Y : Prop} (hy : Y) (h : p = false := by assumption) : AB p X Y := AB.ofF h hy
theorem AOp.reads {E : AEnv} {S : Base} {o : Oper} {st : ASt} {K : ASt → Prop} (h : ∀ Z ρ a w, Sim E.W S Z ρ st a w → Reads E Z ρ o a w fun v => aDst st o.dst v K) : AOp E S o st K := by
  refine ⟨fun a w Q hs => ?_⟩
  obtain ⟨Z, ρ, hs⟩ := hs
  exact good_of hs (h Z ρ a w hs) Q
theorem AIx.mapF {α : Type} {enc : α → List AD} {l : List α} {k : Nat} {K : Nat → List AD → Prop} (hk : k < l.length) (h : ∀ _ : k < l.length, K k (enc l[k])) : AIx (l.map enc) (k : Int) K := AIx.map hk (h hk)
/-- A byte. -/
def eU (n : Int) : List AD := [.pv (.int .u8 n)]
theorem rel_pv {Z : Nat → Prop} {w : World} {v u : Value} (h : RelD Z w (.pv v) u) : u = v := by cases h; rfl
theorem flat_one {α β : Type} (f : α → β) : ∀ l : List α, (l.map fun x => [f x]).flatten = l.map f
  | [] => rfl
  | x :: r => by rw [List.map_cons, List.flatten_cons, flat_one f r]; rfl
theorem AOp.bytes {E : AEnv} {S : Base} {o : Oper} {st : ASt} {K : ASt → Prop} {src dst e : TypeId} {x : Operand} (l : List Int) (ho : o.op = .convert src dst x) (hs : E.P.underlying src = some (.slice e)) (he : E.P.underlying e = some (.int .u8)) (hd : E.P.underlying dst = some .string)
    (hx : aEv st x fun v => aRowOf st v fun xs => xs = l.map eU) (hk : aDst st o.dst (vS (strOfNums l)) K) : AOp E S o st K := by
  refine .reads fun Z ρ a w hsim => ?_
  obtain ⟨v, hv, hx⟩ := aEv_get hsim hx
  obtain ⟨xs, A, cap, hval, hcap, rfl, s, us, h1, h2, h3, h4, h5⟩ := aRowOf_get hsim hv hx
  have hlen : (l.map eU).length = l.length := by simp
  have hus : us = l.map fun n => [Value.int .u8 n] := by
    apply List.ext_getElem?
    intro i
    rw [List.getElem?_map]
    cases hl : l[i]? with
    | none => rw [List.getElem?_eq_none]; rfl; rw [h1, hlen]; exact List.getElem?_eq_none_iff.1 hl
    | some n =>
      have hlt : i < us.length := by rw [h1, hlen]; exact (List.getElem?_eq_some_iff.1 hl).1
      rw [List.getElem?_eq_getElem hlt]
      have hx : (l.map eU)[i]? = some (eU n) := by simp [hl]
      have hs1 : s = 1 := (h2 _ (List.mem_of_getElem? hx)).symm
      have hu := h3 us[i] (List.getElem_mem hlt)
      rw [hs1] at hu
      obtain ⟨y, hy⟩ := List.length_eq_one_iff.1 hu
      have := rel_pv (h5 i 0 _ _ _ y hx (List.getElem?_eq_getElem hlt) rfl (by rw [hy]; rfl))
      simp [hy, this]
  have hfl : us.flatten = l.map (Value.int .u8) := by rw [hus]; exact flat_one (fun n => Value.int .u8 n) l
  rw [hfl] at h4
  rw [hlen] at hval
  refine ⟨_, _, relV_of_pv rfl, ?_, hk⟩
  have key : (convert src dst (.slice A l.length cap)).run E.P w = .ok (.string (strOfNums l)) w := by
    rcases h4 with h4 | ⟨b, off, rfl, hc⟩
    · have : l = [] := by simpa using h4
      subst this
      cases A with
      | none => exact run_convert_bytes_nil w src e hs he 0 cap dst hd
      | some ad =>
        have hl : (loadCells ad 0).run E.P w = .ok (([] : List Int).map (Value.int .u8)).toArray w := by
          have := run_loadCells_list (P := E.P) w ad [] (fun j v hj => by simp at hj)
          simpa using this
        rw [show ([] : List Int).length = 0 from rfl, run_convert_bytes_string w src dst e _ 0 cap hs he hd, run_bytesToString w _ 0 cap [] hl, foldl_push_bytes]
        simp [strOfNums, ByteArray.empty, ByteArray.emptyWithCapacity]
        rfl
    · refine run_convert_bytes_arg w src e hs he b off l.length cap l rfl (fun i hi => ?_) dst hd
      refine (hc i _ ?_)
      simp [List.getD, hi]
  simp [execOp, ho, hval, key]
end Go.Proofs.YtmgcnmdbhahhlaaGreat
namespace Go.Proofs.YtmgcnmdbhahhlaaGreat
open Go.RowKit

def mapRd (v : Value) : Option (DataW Value × List MemPlace) := some (.held v, [])
def atF (f : Int → Option Value) (x : Int) (z : DataW Value) : DataW Value := match f x with | some v => .held v | none => z
/-- Block b is a map of at most N entries that holds f. -/
def MapQ (P : Program) (k : TypeId) (N : Nat) (f : Int → Option Value) (w : World) (v : Value) : Prop :=
  ∃ b n D, v = .map (some b) ∧ n ≤ N ∧ w.ownsMap P k mapRd b n D ∧ ∀ x : Int, (Lit.int .i64 x).wf = true → Maps.has D (.int .i64 x) = (f x).isSome ∧ ∀ z, D.atKey (.int .i64 x) z = atF f x z
def mapO (P : Program) (k : TypeId) (N : Nat) (f : Int → Option Value) : AO := .any (MapQ P k N f)
def updF (f : Int → Option Value) (x : Int) (v : Option Value) : Int → Option Value := fun y => if y = x then v else f y
theorem updF_at (f : Int → Option Value) (x : Int) (v : Option Value) : updF f x v x = v := if_pos rfl
theorem updF_ne {f : Int → Option Value} {x y : Int} {v : Option Value} (h : y ≠ x) : updF f x v y = f y := if_neg h

section
variable {P : Program} {k : TypeId} {N : Nat} {f : Int → Option Value} {Z : Nat → Prop} {w : World} {ρ : Nat → Value} {id : Nat}
theorem mapO_mk {b n : Nat} {D : DataW Value} (hρ : ρ id = .map (some b)) (hn : n ≤ N) (h : w.ownsMap P k mapRd b n D)
    (hf : ∀ x : Int, (Lit.int .i64 x).wf = true → Maps.has D (.int .i64 x) = (f x).isSome ∧ ∀ z, D.atKey (.int .i64 x) z = atF f x z) : RelO Z w ρ id (mapO P k N f) := by
  refine ⟨b, by rw [hρ]; rfl, h.lt, fun w' hw => ⟨b, n, D, hρ, hn, ?_, hf⟩⟩
  obtain ⟨es, clock, hb, r⟩ := h
  exact ⟨es, clock, hw.trans hb, r⟩
theorem mapO_get (h : RelO Z w ρ id (mapO P k N f)) : ∃ b n D, ρ id = .map (some b) ∧ n ≤ N ∧ w.ownsMap P k mapRd b n D ∧ ∀ x : Int, (Lit.int .i64 x).wf = true → Maps.has D (.int .i64 x) = (f x).isSome ∧ ∀ z, D.atKey (.int .i64 x) z = atF f x z := by
  obtain ⟨b, _, _, hq⟩ := h
  exact hq w rfl
end

section
variable {E : AEnv} {S : Base} {o : Oper} {st : ASt} {K : ASt → Prop} {k e : TypeId} {N : Nat} {f : Int → Option Value}
theorem AOp.makeMap {t : TypeId} {d : Tmp} (k : TypeId) (ho : o.op = .makeMap t none) (hd : o.dst = some d) (hk : aNew st d (mapO E.P k 0 fun _ => none) fun st => aDst st (some d) (.one (.own d)) K) : AOp E S o st K := by
  refine ⟨fun a w Q hs => ?_⟩
  obtain ⟨Z, ρ, hs⟩ := hs
  have hrun : (execOp a.eval o).run E.P w = .ok (.value (.map (some w.heap.size))) (w.alloc (.map #[] 0)) := by
    have := @run_makeMap E.P t w
    simp [execOp, ho, this]
  unfold Oper.wp
  rw [hrun]
  have hg := grownBy_alloc w (.map #[] 0) none
  have hrel : RelO Z (w.alloc (.map #[] 0)) (fun i => if i = d then .map (some w.heap.size) else ρ i) d (mapO E.P k 0 fun _ => none) :=
    mapO_mk (by simp) (Nat.le_refl _) (World.ownsMap_made w E.P k mapRd) fun x hx => ⟨rfl, fun z => rfl⟩
  have h1 := hs.renew d (.map (some w.heap.size)) (mapO E.P k 0 fun _ => none) hg (by simp) (fun b hb => by simp [blkOf] at hb; right; omega) hrel
  have h2 := aNew_get hk
  have h3 := h1.put o.dst (x := .one (.own d)) (v := .map (some w.heap.size)) (relV_own (by simp) rfl)
  rw [hd] at h3
  refine ⟨_, ?_, aDst_put h2⟩
  rw [hd]
  exact ⟨Z, _, h3⟩
theorem look_reads {Z : Nat → Prop} {ρ : Nat → Value} {a : Act} {w : World} {t : TypeId} {x i : Operand} {ok : Bool} {id : Nat} {n : Int} {z : Value} (hs : Sim E.W S Z ρ st a w) (ho : o.op = .lookup t x i ok) (ht : E.P.underlying t = some (.map k e)) (hk : E.P.underlying k = some (.int .i64)) (hz : ∀ w, (zeroValue e).run E.P w = .ok z w)
    (hx : aEv st x fun v => v = .one (.own id)) (hi : aEv st i fun v => v = vI .i64 n) (hob : aOb st.ob id fun o => o = mapO E.P k N f) (hn : (Lit.int .i64 n).wf = true) (r : AV) (hr : ∀ Z w ρ, RelV Z w ρ r ((f n).getD z)) :
    ∃ u, RelV Z w ρ (match (generalizing := false) ok with | true => .tup [r, vB (f n).isSome] | false => r) u ∧ (execOp a.eval o).run E.P w = .ok (.value u) w := by
  obtain ⟨vx, hvx, rfl⟩ := aEv_get hs hx
  obtain ⟨vi, hvi, rfl⟩ := aEv_get hs hi
  obtain ⟨ob, hob, rfl⟩ := aOb_get hob
  obtain ⟨b, m, D, hρ, hm, hown, hf⟩ := mapO_get (Z := Z) (w := w) (hs.ws.obj id _ hob)
  have e1 : a.eval x = .map (some b) := by
    cases hvx with
    | one _ _ h => exact h.1.trans hρ
  have e2 : a.eval i = .int .i64 n := relV_pv hvi
  have hl := Maps.int_keyed hk
  have hkey := Maps.keyOf_int_mk hk hn
  have at_ : D.atKey (.int .i64 n) (.held z) = .held ((f n).getD z) := by
    rw [(hf n hn).2]; unfold atF; cases f n <;> rfl
  cases ok with
  | false =>
    obtain ⟨v, ps, hrun, hv⟩ := hown.lookup hl ht (hz w) (zd := .held z) (zp := []) rfl hkey
    have hv' : v = (f n).getD z := by
      simp only [mapRd, Option.some.injEq, Prod.mk.injEq] at hv
      rw [at_] at hv
      injection hv.1
    exact ⟨v, by rw [hv']; exact hr Z w ρ, by simp [execOp, ho, e1, e2, hrun]⟩
  | true =>
    obtain ⟨v, ps, hrun, hv⟩ := hown.look_ok hl ht (hz w) (zd := .held z) (zp := []) rfl hkey
    have hv' : v = (f n).getD z := by
      simp only [mapRd, Option.some.injEq, Prod.mk.injEq] at hv
      rw [at_] at hv
      injection hv.1
    refine ⟨.tuple #[v, .bool (Maps.has D (.int .i64 n))], ?_, by simp [execOp, ho, e1, e2, hrun]⟩
    have : (Value.tuple #[v, .bool (Maps.has D (.int .i64 n))]) = .tuple [v, .bool (Maps.has D (.int .i64 n))].toArray := rfl
    rw [this]
    refine .tup _ _ rfl fun j c u hc hu => ?_
    match j, hc, hu with
    | 0, hc, hu => simp at hc hu; subst hc hu; rw [hv']; exact hr Z w ρ
    | 1, hc, hu => simp at hc hu; subst hc hu; rw [(hf n hn).1]; exact relV_of_pv rfl
    | j + 2, hc, _ => simp at hc
theorem AOp.look {t : TypeId} {x i : Operand} {ok : Bool} {id : Nat} {n : Int} {z : Value} (ho : o.op = .lookup t x i ok) (ht : E.P.underlying t = some (.map k e)) (hk : E.P.underlying k = some (.int .i64)) (hz : ∀ w, (zeroValue e).run E.P w = .ok z w)
    (hx : aEv st x fun v => v = .one (.own id)) (hi : aEv st i fun v => v = vI .i64 n) (hob : aOb st.ob id fun o => o = mapO E.P k N f) (hn : (Lit.int .i64 n).wf = true) (r : AV) (hr : ∀ Z w ρ, RelV Z w ρ r ((f n).getD z))
    (hK : aDst st o.dst (match (generalizing := false) ok with | true => .tup [r, vB (f n).isSome] | false => r) K) : AOp E S o st K := by
  refine .reads fun Z ρ a w hs => ?_
  obtain ⟨u, hu, hrun⟩ := look_reads hs ho ht hk hz hx hi hob hn r hr
  exact ⟨_, u, hu, hrun, hK⟩
theorem AFRd.look {K : AV → Prop} {t : TypeId} {x i : Operand} {ok : Bool} {id : Nat} {n : Int} {z : Value} (ho : o.op = .lookup t x i ok) (ht : E.P.underlying t = some (.map k e)) (hk : E.P.underlying k = some (.int .i64)) (hz : ∀ w, (zeroValue e).run E.P w = .ok z w)
    (hx : aEv st x fun v => v = .one (.own id)) (hi : aEv st i fun v => v = vI .i64 n) (hob : aOb st.ob id fun o => o = mapO E.P k N f) (hn : (Lit.int .i64 n).wf = true) (r : AV) (hr : ∀ Z w ρ, RelV Z w ρ r ((f n).getD z))
    (hK : K (match (generalizing := false) ok with | true => .tup [r, vB (f n).isSome] | false => r)) : AFRd E o st K :=
  ⟨_, hK, fun S Z ρ a w hs => look_reads hs ho ht hk hz hx hi hob hn r hr⟩
/-- The map is written: v's value is u. -/
theorem AOp.mapPut {t : TypeId} {x i v : Operand} {id : Nat} {n : Int} {u : Value} (ho : o.op = .mapUpdate t x i v) (ht : E.P.underlying t = some (.map k e)) (hk : E.P.underlying k = some (.int .i64)) (hN : N < 9223372036854775807)
    (hx : aEv st x fun v => v = .one (.own id)) (hi : aEv st i fun v => v = vI .i64 n) (hob : aOb st.ob id fun o => o = mapO E.P k N f) (hn : (Lit.int .i64 n).wf = true) (hv : aEv st v fun v => ∀ Z w ρ y, RelV Z w ρ v y → y = u)
    (hK : aSetO id (mapO E.P k (N + 1) (updF f n (some u))) st.ob fun ob => aDst ⟨st.tm, ob⟩ o.dst (.one .und) K) : AOp E S o st K := by
  refine ⟨fun a w Q hs => ?_⟩
  obtain ⟨Z, ρ, hs⟩ := hs
  obtain ⟨vx, hvx, rfl⟩ := aEv_get hs hx
  obtain ⟨vi, hvi, rfl⟩ := aEv_get hs hi
  obtain ⟨vv, hvv, huu⟩ := aEv_get hs hv
  obtain ⟨ob, hob, rfl⟩ := aOb_get hob
  obtain ⟨b, m, D, hρ, hm, hown, hf⟩ := mapO_get (Z := Z) (w := w) (hs.ws.obj id _ hob)
  have e1 : a.eval x = .map (some b) := by
    cases hvx with
    | one _ _ h => exact h.1.trans hρ
  have e2 : a.eval i = .int .i64 n := relV_pv hvi
  have e3 : a.eval v = u := huu Z w ρ _ hvv
  have hl := Maps.int_keyed hk
  have hkey := Maps.keyOf_int_mk hk hn
  obtain ⟨w', hrun, hown', hturn⟩ := hown.store hl ht (by unfold maxLen; omega) hkey (val := u) (d := .held u) (ps := []) rfl
  unfold Oper.wp
  simp only [execOp, ho, e1, e2, e3, Sem.run_bind, hrun, Result.andThen_ok, Sem.run_pure]
  have hrel : RelO Z w' ρ id (mapO E.P k (N + 1) (updF f n (some u))) := by
    refine mapO_mk hρ (by omega) hown' fun y hy => ?_
    by_cases hyn : y = n
    · subst hyn
      refine ⟨by rw [Maps.has_put_same hown.isMap (hl.key hkey), updF_at]; rfl, fun z => ?_⟩
      rw [Maps.atKey_put_same hown.isMap (hl.key hkey)]; unfold atF; rw [updF_at]
    · have hne : (Lit.int .i64 y) ≠ .int .i64 n := fun e => hyn (by injection e)
      refine ⟨by rw [Maps.has_put_other hne, updF_ne hyn]; exact (hf y hy).1, fun z => ?_⟩
      rw [Maps.atKey_put_other hne, (hf y hy).2]; unfold atF; rw [updF_ne hyn]
  have h1 := hs.upd id _ (mapO E.P k (N + 1) (updF f n (some u))) hob (g := b) (by rw [hρ]; rfl) hturn.grown hrel
  exact ⟨_, ⟨Z, ρ, h1.put o.dst (x := .one .und) (v := undef) (.one _ _ (show RelC Z w' ρ .und undef from rfl))⟩, aDst_put (aSetO_get (K := fun ob => aDst ⟨st.tm, ob⟩ o.dst (.one .und) K) hK)⟩
theorem AOp.mapDel {t : TypeId} {x i : Operand} {id : Nat} {n : Int} {c : Go.Call} (ho : o.op = .call c) (hc : c = { callee := .builtin .delete, args := #[x, i], argTypes := #[t, k] }) (ht : E.P.underlying t = some (.map k e)) (hk : E.P.underlying k = some (.int .i64))
    (hx : aEv st x fun v => v = .one (.own id)) (hi : aEv st i fun v => v = vI .i64 n) (hob : aOb st.ob id fun o => o = mapO E.P k N f) (hn : (Lit.int .i64 n).wf = true)
    (hK : aSetO id (mapO E.P k N (updF f n none)) st.ob fun ob => aDst ⟨st.tm, ob⟩ o.dst (.one .dead) K) : AOp E S o st K := by
  subst hc
  refine ⟨fun a w Q hs => ?_⟩
  obtain ⟨Z, ρ, hs⟩ := hs
  obtain ⟨vx, hvx, rfl⟩ := aEv_get hs hx
  obtain ⟨vi, hvi, rfl⟩ := aEv_get hs hi
  obtain ⟨ob, hob, rfl⟩ := aOb_get hob
  obtain ⟨b, m, D, hρ, hm, hown, hf⟩ := mapO_get (Z := Z) (w := w) (hs.ws.obj id _ hob)
  have e1 : a.eval x = .map (some b) := by
    cases hvx with
    | one _ _ h => exact h.1.trans hρ
  have e2 : a.eval i = .int .i64 n := relV_pv hvi
  have hl := Maps.int_keyed hk
  have hkey := Maps.keyOf_int_mk hk hn
  obtain ⟨w', hrun, hown', hturn⟩ := hown.drop hl ht hkey o.type
  have hrel : RelO Z w' ρ id (mapO E.P k N (updF f n none)) := by
    refine mapO_mk hρ hm hown' fun y hy => ?_
    by_cases hyn : y = n
    · subst hyn
      refine ⟨by rw [Maps.has_del_same, updF_at]; rfl, fun z => ?_⟩
      rw [Maps.atKey_del_same]; unfold atF; rw [updF_at]
    · have hne : (Lit.int .i64 y) ≠ .int .i64 n := fun e => hyn (by injection e)
      refine ⟨by rw [Maps.has_del_other hne, updF_ne hyn]; exact (hf y hy).1, fun z => ?_⟩
      rw [Maps.atKey_del_other hne, (hf y hy).2]; unfold atF; rw [updF_ne hyn]
  have h1 := hs.upd id _ (mapO E.P k N (updF f n none)) hob (g := b) (by rw [hρ]; rfl) hturn.grown hrel
  unfold Oper.wp
  simp [execOp, ho, resolve, invoke, builtin, e1, e2, hrun, Result.andThen]
  exact ⟨_, ⟨Z, ρ, h1.put o.dst (x := .one .dead) (v := .tuple #[]) (.one _ _ trivial)⟩, aDst_put (aSetO_get (K := fun ob => aDst ⟨st.tm, ob⟩ o.dst (.one .dead) K) hK)⟩
end
end Go.Proofs.YtmgcnmdbhahhlaaGreat
namespace Go.Proofs.YtmgcnmdbhahhlaaGreat
open Go.RowKit

theorem relV_pvs {Z : Nat → Prop} {w : World} {ρ : Nat → Value} {v : Value} : ∀ {ds : List AD}, ds.all AD.isPv = true → RelV Z w ρ (.agg (ds.map .d)) v → v = .agg (ds.map pvOf).toArray := by
  intro ds hp h
  cases h with
  | agg _ us hl h =>
    have : us = ds.map pvOf := by
      apply List.ext_getElem
      · simpa using hl
      · intro i h1 h2
        have hi : i < ds.length := by simpa using h2
        have hr := h i (.d ds[i]) us[i] (by simp [hi]) (by simp [h1])
        have := relD_pl (List.all_eq_true.1 hp ds[i] (List.getElem_mem hi)) (show RelD Z w ds[i] us[i] from hr)
        simpa using this
    rw [this]
end Go.Proofs.YtmgcnmdbhahhlaaGreat
