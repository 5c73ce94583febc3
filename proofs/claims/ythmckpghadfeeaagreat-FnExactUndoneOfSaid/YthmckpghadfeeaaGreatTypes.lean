/- The program's structs as data, and how they lie in memory. Printed by gen_types.py. -/
import Derived.Test.YthmckpghadfeeaaGreatApp
set_option linter.unusedVariables false
set_option linter.unusedSimpArgs false
namespace Go.Proofs.YthmckpghadfeeaaGreat
open Go.ChangeShapes Go.WideShapes Go.RowKit

def Rep.via {α β : Type} (f : β → α) (R : Rep α) : Rep β where
  size := R.size
  rd := fun w cs b F => R.rd w cs (f b) F
  len := fun h => R.len h
  one := fun h => R.one h
  lt := fun h => R.lt h
  keep := fun h k => R.keep h k

theorem Rep.sl_cell {α : Type} {R : Rep α} {w : World} {cs : List Value} {l : List α} {F : List Nat} (h : R.sl.rd w cs l F) : ∃ A cap, cs = [.slice A l.length cap] := by
  obtain ⟨A, cap, xs, F1, rfl, _⟩ := h
  exact ⟨_, _, rfl⟩

structure DStep where
  kind : Int
  a : Int
  b : Int
  c : Int
  fates : (List Int)
  deriving DecidableEq
def Rep.DStep : Rep DStep := Rep.via (fun x => (x.kind, x.a, x.b, x.c, x.fates)) (Rep.pair (Rep.int .i64) (Rep.pair (Rep.int .i64) (Rep.pair (Rep.int .i64) (Rep.pair (Rep.int .i64) (Rep.sl (Rep.int .i64))))))
theorem DStep_open {w : World} {cs : List Value} {x : DStep} {F : List Nat} (h : Rep.DStep.rd w cs x F) : ∃ (A0 : Option Addr) (cap0 : Nat) (F0 : List Nat), cs = [.int .i64 x.kind, .int .i64 x.a, .int .i64 x.b, .int .i64 x.c, .slice A0 x.fates.length cap0] ∧ F = F0 ∧ (Lit.int .i64 x.kind).wf = true ∧ (Lit.int .i64 x.a).wf = true ∧ (Lit.int .i64 x.b).wf = true ∧ (Lit.int .i64 x.c).wf = true ∧ (Rep.sl (Rep.int .i64)).rd w [.slice A0 x.fates.length cap0] x.fates F0 := by
  simp only [Rep.DStep, Rep.via, Rep.pair] at h
  obtain ⟨c0, d0, G0, H0, rfl, rfl, ⟨rfl, w0, rfl⟩, ⟨c1, d1, G1, H1, rfl, rfl, ⟨rfl, w1, rfl⟩, ⟨c2, d2, G2, H2, rfl, rfl, ⟨rfl, w2, rfl⟩, ⟨c3, d3, G3, H3, rfl, rfl, ⟨rfl, w3, rfl⟩, h0⟩⟩⟩⟩ := h
  obtain ⟨A0, cap0, rfl⟩ := Rep.sl_cell h0
  exact ⟨A0, cap0, _, by simp, by simp, w0, w1, w2, w3, h0⟩
theorem DStep_make {w : World} {x : DStep} {A0 : Option Addr} {cap0 : Nat} {F0 : List Nat} (w0 : (Lit.int .i64 x.kind).wf = true) (w1 : (Lit.int .i64 x.a).wf = true) (w2 : (Lit.int .i64 x.b).wf = true) (w3 : (Lit.int .i64 x.c).wf = true) (h0 : (Rep.sl (Rep.int .i64)).rd w [.slice A0 x.fates.length cap0] x.fates F0) : Rep.DStep.rd w [.int .i64 x.kind, .int .i64 x.a, .int .i64 x.b, .int .i64 x.c, .slice A0 x.fates.length cap0] x (F0) := by
  simp only [Rep.DStep, Rep.via, Rep.pair]
  exact ⟨_, _, [], (F0), rfl, (by simp), ⟨rfl, w0, rfl⟩, ⟨_, _, [], (F0), rfl, (by simp), ⟨rfl, w1, rfl⟩, ⟨_, _, [], (F0), rfl, (by simp), ⟨rfl, w2, rfl⟩, ⟨_, _, [], (F0), rfl, (by simp), ⟨rfl, w3, rfl⟩, h0⟩⟩⟩⟩
theorem DStep_at {w : World} {A : Option Addr} {xs : List Value} {l : List DStep} {G : List Nat} (hr : Row w A xs) (ha : Rep.DStep.all w xs l G) {k : Nat} (hk : k < l.length) : ∃ (b off : Nat) (A0 : Option Addr) (cap0 : Nat) (F0 : List Nat), A = some ⟨b, off, none⟩ ∧ w.cell? ⟨b, off + k * 5, none⟩ = some (.int .i64 l[k].kind) ∧ w.cell? ⟨b, off + k * 5 + 1, none⟩ = some (.int .i64 l[k].a) ∧ w.cell? ⟨b, off + k * 5 + 2, none⟩ = some (.int .i64 l[k].b) ∧ w.cell? ⟨b, off + k * 5 + 3, none⟩ = some (.int .i64 l[k].c) ∧ w.cell? ⟨b, off + k * 5 + 4, none⟩ = some (.slice A0 l[k].fates.length cap0) ∧ (Lit.int .i64 l[k].kind).wf = true ∧ (Lit.int .i64 l[k].a).wf = true ∧ (Lit.int .i64 l[k].b).wf = true ∧ (Lit.int .i64 l[k].c).wf = true ∧ (Rep.sl (Rep.int .i64)).rd w [.slice A0 l[k].fates.length cap0] l[k].fates F0 ∧ (∀ g ∈ F0, g ∈ G) := by
  obtain ⟨b, off, cs, F, rfl, hrd, hF, hc⟩ := Rep.sl_at hr ha (by decide) hk
  obtain ⟨A0, cap0, F0, rfl, hFe, w0, w1, w2, w3, h0⟩ := DStep_open hrd
  rw [show Rep.DStep.size = 5 from rfl] at hc
  exact ⟨b, off, A0, cap0, F0, rfl, hc 0 _ rfl, hc 1 _ rfl, hc 2 _ rfl, hc 3 _ rfl, hc 4 _ rfl, w0, w1, w2, w3, h0, fun g hg => hF g (by rw [hFe]; simp [hg])⟩
theorem DStep_res {B : Nat} {w : World} {x : DStep} {A0 : Option Addr} {cap0 : Nat} {F0 : List Nat} (w0 : (Lit.int .i64 x.kind).wf = true) (w1 : (Lit.int .i64 x.a).wf = true) (w2 : (Lit.int .i64 x.b).wf = true) (w3 : (Lit.int .i64 x.c).wf = true) (h0 : Res (Rep.sl (Rep.int .i64)) B w [.slice A0 x.fates.length cap0] x.fates F0) : Res Rep.DStep B w [.int .i64 x.kind, .int .i64 x.a, .int .i64 x.b, .int .i64 x.c, .slice A0 x.fates.length cap0] x F0 :=
  ⟨DStep_make w0 w1 w2 w3 h0.rd, h0.fresh⟩

structure DOp where
  kind : Int
  a : Int
  b : Int
  c : Int
  d : Int
  deriving DecidableEq
def Rep.DOp : Rep DOp := Rep.via (fun x => (x.kind, x.a, x.b, x.c, x.d)) (Rep.pair (Rep.int .i64) (Rep.pair (Rep.int .i64) (Rep.pair (Rep.int .i64) (Rep.pair (Rep.int .i64) (Rep.int .i64)))))
theorem DOp_open {w : World} {cs : List Value} {x : DOp} {F : List Nat} (h : Rep.DOp.rd w cs x F) : cs = [.int .i64 x.kind, .int .i64 x.a, .int .i64 x.b, .int .i64 x.c, .int .i64 x.d] ∧ F = [] ∧ (Lit.int .i64 x.kind).wf = true ∧ (Lit.int .i64 x.a).wf = true ∧ (Lit.int .i64 x.b).wf = true ∧ (Lit.int .i64 x.c).wf = true ∧ (Lit.int .i64 x.d).wf = true := by
  simp only [Rep.DOp, Rep.via, Rep.pair] at h
  obtain ⟨c0, d0, G0, H0, rfl, rfl, ⟨rfl, w0, rfl⟩, ⟨c1, d1, G1, H1, rfl, rfl, ⟨rfl, w1, rfl⟩, ⟨c2, d2, G2, H2, rfl, rfl, ⟨rfl, w2, rfl⟩, ⟨c3, d3, G3, H3, rfl, rfl, ⟨rfl, w3, rfl⟩, ⟨rfl, w4, rfl⟩⟩⟩⟩⟩ := h
  exact ⟨by simp, by simp, w0, w1, w2, w3, w4⟩
theorem DOp_make {w : World} {x : DOp}  (w0 : (Lit.int .i64 x.kind).wf = true) (w1 : (Lit.int .i64 x.a).wf = true) (w2 : (Lit.int .i64 x.b).wf = true) (w3 : (Lit.int .i64 x.c).wf = true) (w4 : (Lit.int .i64 x.d).wf = true)  : Rep.DOp.rd w [.int .i64 x.kind, .int .i64 x.a, .int .i64 x.b, .int .i64 x.c, .int .i64 x.d] x ([]) := by
  simp only [Rep.DOp, Rep.via, Rep.pair]
  exact ⟨_, _, [], [], rfl, (by simp), ⟨rfl, w0, rfl⟩, ⟨_, _, [], [], rfl, (by simp), ⟨rfl, w1, rfl⟩, ⟨_, _, [], [], rfl, (by simp), ⟨rfl, w2, rfl⟩, ⟨_, _, [], [], rfl, (by simp), ⟨rfl, w3, rfl⟩, ⟨rfl, w4, rfl⟩⟩⟩⟩⟩
theorem DOp_at {w : World} {A : Option Addr} {xs : List Value} {l : List DOp} {G : List Nat} (hr : Row w A xs) (ha : Rep.DOp.all w xs l G) {k : Nat} (hk : k < l.length) : ∃ (b off : Nat), A = some ⟨b, off, none⟩ ∧ w.cell? ⟨b, off + k * 5, none⟩ = some (.int .i64 l[k].kind) ∧ w.cell? ⟨b, off + k * 5 + 1, none⟩ = some (.int .i64 l[k].a) ∧ w.cell? ⟨b, off + k * 5 + 2, none⟩ = some (.int .i64 l[k].b) ∧ w.cell? ⟨b, off + k * 5 + 3, none⟩ = some (.int .i64 l[k].c) ∧ w.cell? ⟨b, off + k * 5 + 4, none⟩ = some (.int .i64 l[k].d) ∧ (Lit.int .i64 l[k].kind).wf = true ∧ (Lit.int .i64 l[k].a).wf = true ∧ (Lit.int .i64 l[k].b).wf = true ∧ (Lit.int .i64 l[k].c).wf = true ∧ (Lit.int .i64 l[k].d).wf = true := by
  obtain ⟨b, off, cs, F, rfl, hrd, hF, hc⟩ := Rep.sl_at hr ha (by decide) hk
  obtain ⟨rfl, hFe, w0, w1, w2, w3, w4⟩ := DOp_open hrd
  rw [show Rep.DOp.size = 5 from rfl] at hc
  exact ⟨b, off, rfl, hc 0 _ rfl, hc 1 _ rfl, hc 2 _ rfl, hc 3 _ rfl, hc 4 _ rfl, w0, w1, w2, w3, w4⟩

structure DEntry where
  index : Int
  time : Int
  client : Int
  seq : Int
  op : DOp
  deriving DecidableEq
def Rep.DEntry : Rep DEntry := Rep.via (fun x => (x.index, x.time, x.client, x.seq, x.op)) (Rep.pair (Rep.int .i64) (Rep.pair (Rep.int .i64) (Rep.pair (Rep.int .i64) (Rep.pair (Rep.int .i64) Rep.DOp))))
theorem DEntry_open {w : World} {cs : List Value} {x : DEntry} {F : List Nat} (h : Rep.DEntry.rd w cs x F) : cs = [.int .i64 x.index, .int .i64 x.time, .int .i64 x.client, .int .i64 x.seq, .int .i64 x.op.kind, .int .i64 x.op.a, .int .i64 x.op.b, .int .i64 x.op.c, .int .i64 x.op.d] ∧ F = [] ∧ (Lit.int .i64 x.index).wf = true ∧ (Lit.int .i64 x.time).wf = true ∧ (Lit.int .i64 x.client).wf = true ∧ (Lit.int .i64 x.seq).wf = true ∧ (Lit.int .i64 x.op.kind).wf = true ∧ (Lit.int .i64 x.op.a).wf = true ∧ (Lit.int .i64 x.op.b).wf = true ∧ (Lit.int .i64 x.op.c).wf = true ∧ (Lit.int .i64 x.op.d).wf = true := by
  simp only [Rep.DEntry, Rep.via, Rep.pair, Rep.DOp] at h
  obtain ⟨c0, d0, G0, H0, rfl, rfl, ⟨rfl, w0, rfl⟩, ⟨c1, d1, G1, H1, rfl, rfl, ⟨rfl, w1, rfl⟩, ⟨c2, d2, G2, H2, rfl, rfl, ⟨rfl, w2, rfl⟩, ⟨c3, d3, G3, H3, rfl, rfl, ⟨rfl, w3, rfl⟩, ⟨c4, d4, G4, H4, rfl, rfl, ⟨rfl, w4, rfl⟩, ⟨c5, d5, G5, H5, rfl, rfl, ⟨rfl, w5, rfl⟩, ⟨c6, d6, G6, H6, rfl, rfl, ⟨rfl, w6, rfl⟩, ⟨c7, d7, G7, H7, rfl, rfl, ⟨rfl, w7, rfl⟩, ⟨rfl, w8, rfl⟩⟩⟩⟩⟩⟩⟩⟩⟩ := h
  exact ⟨by simp, by simp, w0, w1, w2, w3, w4, w5, w6, w7, w8⟩
theorem DEntry_make {w : World} {x : DEntry}  (w0 : (Lit.int .i64 x.index).wf = true) (w1 : (Lit.int .i64 x.time).wf = true) (w2 : (Lit.int .i64 x.client).wf = true) (w3 : (Lit.int .i64 x.seq).wf = true) (w4 : (Lit.int .i64 x.op.kind).wf = true) (w5 : (Lit.int .i64 x.op.a).wf = true) (w6 : (Lit.int .i64 x.op.b).wf = true) (w7 : (Lit.int .i64 x.op.c).wf = true) (w8 : (Lit.int .i64 x.op.d).wf = true)  : Rep.DEntry.rd w [.int .i64 x.index, .int .i64 x.time, .int .i64 x.client, .int .i64 x.seq, .int .i64 x.op.kind, .int .i64 x.op.a, .int .i64 x.op.b, .int .i64 x.op.c, .int .i64 x.op.d] x ([]) := by
  simp only [Rep.DEntry, Rep.via, Rep.pair, Rep.DOp]
  exact ⟨_, _, [], [], rfl, (by simp), ⟨rfl, w0, rfl⟩, ⟨_, _, [], [], rfl, (by simp), ⟨rfl, w1, rfl⟩, ⟨_, _, [], [], rfl, (by simp), ⟨rfl, w2, rfl⟩, ⟨_, _, [], [], rfl, (by simp), ⟨rfl, w3, rfl⟩, ⟨_, _, [], [], rfl, (by simp), ⟨rfl, w4, rfl⟩, ⟨_, _, [], [], rfl, (by simp), ⟨rfl, w5, rfl⟩, ⟨_, _, [], [], rfl, (by simp), ⟨rfl, w6, rfl⟩, ⟨_, _, [], [], rfl, (by simp), ⟨rfl, w7, rfl⟩, ⟨rfl, w8, rfl⟩⟩⟩⟩⟩⟩⟩⟩⟩
theorem DEntry_at {w : World} {A : Option Addr} {xs : List Value} {l : List DEntry} {G : List Nat} (hr : Row w A xs) (ha : Rep.DEntry.all w xs l G) {k : Nat} (hk : k < l.length) : ∃ (b off : Nat), A = some ⟨b, off, none⟩ ∧ w.cell? ⟨b, off + k * 9, none⟩ = some (.int .i64 l[k].index) ∧ w.cell? ⟨b, off + k * 9 + 1, none⟩ = some (.int .i64 l[k].time) ∧ w.cell? ⟨b, off + k * 9 + 2, none⟩ = some (.int .i64 l[k].client) ∧ w.cell? ⟨b, off + k * 9 + 3, none⟩ = some (.int .i64 l[k].seq) ∧ w.cell? ⟨b, off + k * 9 + 4, none⟩ = some (.int .i64 l[k].op.kind) ∧ w.cell? ⟨b, off + k * 9 + 5, none⟩ = some (.int .i64 l[k].op.a) ∧ w.cell? ⟨b, off + k * 9 + 6, none⟩ = some (.int .i64 l[k].op.b) ∧ w.cell? ⟨b, off + k * 9 + 7, none⟩ = some (.int .i64 l[k].op.c) ∧ w.cell? ⟨b, off + k * 9 + 8, none⟩ = some (.int .i64 l[k].op.d) ∧ (Lit.int .i64 l[k].index).wf = true ∧ (Lit.int .i64 l[k].time).wf = true ∧ (Lit.int .i64 l[k].client).wf = true ∧ (Lit.int .i64 l[k].seq).wf = true ∧ (Lit.int .i64 l[k].op.kind).wf = true ∧ (Lit.int .i64 l[k].op.a).wf = true ∧ (Lit.int .i64 l[k].op.b).wf = true ∧ (Lit.int .i64 l[k].op.c).wf = true ∧ (Lit.int .i64 l[k].op.d).wf = true := by
  obtain ⟨b, off, cs, F, rfl, hrd, hF, hc⟩ := Rep.sl_at hr ha (by decide) hk
  obtain ⟨rfl, hFe, w0, w1, w2, w3, w4, w5, w6, w7, w8⟩ := DEntry_open hrd
  rw [show Rep.DEntry.size = 9 from rfl] at hc
  exact ⟨b, off, rfl, hc 0 _ rfl, hc 1 _ rfl, hc 2 _ rfl, hc 3 _ rfl, hc 4 _ rfl, hc 5 _ rfl, hc 6 _ rfl, hc 7 _ rfl, hc 8 _ rfl, w0, w1, w2, w3, w4, w5, w6, w7, w8⟩

structure DMsg where
  frm : Int
  to_ : Int
  row : (List Int)
  deriving DecidableEq
def Rep.DMsg : Rep DMsg := Rep.via (fun x => (x.frm, x.to_, x.row)) (Rep.pair (Rep.int .i64) (Rep.pair (Rep.int .i64) (Rep.sl (Rep.int .i64))))
theorem DMsg_open {w : World} {cs : List Value} {x : DMsg} {F : List Nat} (h : Rep.DMsg.rd w cs x F) : ∃ (A0 : Option Addr) (cap0 : Nat) (F0 : List Nat), cs = [.int .i64 x.frm, .int .i64 x.to_, .slice A0 x.row.length cap0] ∧ F = F0 ∧ (Lit.int .i64 x.frm).wf = true ∧ (Lit.int .i64 x.to_).wf = true ∧ (Rep.sl (Rep.int .i64)).rd w [.slice A0 x.row.length cap0] x.row F0 := by
  simp only [Rep.DMsg, Rep.via, Rep.pair] at h
  obtain ⟨c0, d0, G0, H0, rfl, rfl, ⟨rfl, w0, rfl⟩, ⟨c1, d1, G1, H1, rfl, rfl, ⟨rfl, w1, rfl⟩, h0⟩⟩ := h
  obtain ⟨A0, cap0, rfl⟩ := Rep.sl_cell h0
  exact ⟨A0, cap0, _, by simp, by simp, w0, w1, h0⟩
theorem DMsg_make {w : World} {x : DMsg} {A0 : Option Addr} {cap0 : Nat} {F0 : List Nat} (w0 : (Lit.int .i64 x.frm).wf = true) (w1 : (Lit.int .i64 x.to_).wf = true) (h0 : (Rep.sl (Rep.int .i64)).rd w [.slice A0 x.row.length cap0] x.row F0) : Rep.DMsg.rd w [.int .i64 x.frm, .int .i64 x.to_, .slice A0 x.row.length cap0] x (F0) := by
  simp only [Rep.DMsg, Rep.via, Rep.pair]
  exact ⟨_, _, [], (F0), rfl, (by simp), ⟨rfl, w0, rfl⟩, ⟨_, _, [], (F0), rfl, (by simp), ⟨rfl, w1, rfl⟩, h0⟩⟩
theorem DMsg_at {w : World} {A : Option Addr} {xs : List Value} {l : List DMsg} {G : List Nat} (hr : Row w A xs) (ha : Rep.DMsg.all w xs l G) {k : Nat} (hk : k < l.length) : ∃ (b off : Nat) (A0 : Option Addr) (cap0 : Nat) (F0 : List Nat), A = some ⟨b, off, none⟩ ∧ w.cell? ⟨b, off + k * 3, none⟩ = some (.int .i64 l[k].frm) ∧ w.cell? ⟨b, off + k * 3 + 1, none⟩ = some (.int .i64 l[k].to_) ∧ w.cell? ⟨b, off + k * 3 + 2, none⟩ = some (.slice A0 l[k].row.length cap0) ∧ (Lit.int .i64 l[k].frm).wf = true ∧ (Lit.int .i64 l[k].to_).wf = true ∧ (Rep.sl (Rep.int .i64)).rd w [.slice A0 l[k].row.length cap0] l[k].row F0 ∧ (∀ g ∈ F0, g ∈ G) := by
  obtain ⟨b, off, cs, F, rfl, hrd, hF, hc⟩ := Rep.sl_at hr ha (by decide) hk
  obtain ⟨A0, cap0, F0, rfl, hFe, w0, w1, h0⟩ := DMsg_open hrd
  rw [show Rep.DMsg.size = 3 from rfl] at hc
  exact ⟨b, off, A0, cap0, F0, rfl, hc 0 _ rfl, hc 1 _ rfl, hc 2 _ rfl, w0, w1, h0, fun g hg => hF g (by rw [hFe]; simp [hg])⟩
theorem DMsg_res {B : Nat} {w : World} {x : DMsg} {A0 : Option Addr} {cap0 : Nat} {F0 : List Nat} (w0 : (Lit.int .i64 x.frm).wf = true) (w1 : (Lit.int .i64 x.to_).wf = true) (h0 : Res (Rep.sl (Rep.int .i64)) B w [.slice A0 x.row.length cap0] x.row F0) : Res Rep.DMsg B w [.int .i64 x.frm, .int .i64 x.to_, .slice A0 x.row.length cap0] x F0 :=
  ⟨DMsg_make w0 w1 h0.rd, h0.fresh⟩

structure DLink where
  a : Int
  b : Int
  deriving DecidableEq
def Rep.DLink : Rep DLink := Rep.via (fun x => (x.a, x.b)) (Rep.pair (Rep.int .i64) (Rep.int .i64))
theorem DLink_open {w : World} {cs : List Value} {x : DLink} {F : List Nat} (h : Rep.DLink.rd w cs x F) : cs = [.int .i64 x.a, .int .i64 x.b] ∧ F = [] ∧ (Lit.int .i64 x.a).wf = true ∧ (Lit.int .i64 x.b).wf = true := by
  simp only [Rep.DLink, Rep.via, Rep.pair] at h
  obtain ⟨c0, d0, G0, H0, rfl, rfl, ⟨rfl, w0, rfl⟩, ⟨rfl, w1, rfl⟩⟩ := h
  exact ⟨by simp, by simp, w0, w1⟩
theorem DLink_make {w : World} {x : DLink}  (w0 : (Lit.int .i64 x.a).wf = true) (w1 : (Lit.int .i64 x.b).wf = true)  : Rep.DLink.rd w [.int .i64 x.a, .int .i64 x.b] x ([]) := by
  simp only [Rep.DLink, Rep.via, Rep.pair]
  exact ⟨_, _, [], [], rfl, (by simp), ⟨rfl, w0, rfl⟩, ⟨rfl, w1, rfl⟩⟩
theorem DLink_at {w : World} {A : Option Addr} {xs : List Value} {l : List DLink} {G : List Nat} (hr : Row w A xs) (ha : Rep.DLink.all w xs l G) {k : Nat} (hk : k < l.length) : ∃ (b off : Nat), A = some ⟨b, off, none⟩ ∧ w.cell? ⟨b, off + k * 2, none⟩ = some (.int .i64 l[k].a) ∧ w.cell? ⟨b, off + k * 2 + 1, none⟩ = some (.int .i64 l[k].b) ∧ (Lit.int .i64 l[k].a).wf = true ∧ (Lit.int .i64 l[k].b).wf = true := by
  obtain ⟨b, off, cs, F, rfl, hrd, hF, hc⟩ := Rep.sl_at hr ha (by decide) hk
  obtain ⟨rfl, hFe, w0, w1⟩ := DLink_open hrd
  rw [show Rep.DLink.size = 2 from rfl] at hc
  exact ⟨b, off, rfl, hc 0 _ rfl, hc 1 _ rfl, w0, w1⟩

structure DNet where
  flight : (List DMsg)
  cuts : (List DLink)
  deriving DecidableEq
def Rep.DNet : Rep DNet := Rep.via (fun x => (x.flight, x.cuts)) (Rep.pair (Rep.sl Rep.DMsg) (Rep.sl Rep.DLink))
theorem DNet_open {w : World} {cs : List Value} {x : DNet} {F : List Nat} (h : Rep.DNet.rd w cs x F) : ∃ (A0 : Option Addr) (cap0 : Nat) (A1 : Option Addr) (cap1 : Nat) (F0 F1 : List Nat), cs = [.slice A0 x.flight.length cap0, .slice A1 x.cuts.length cap1] ∧ F = F0 ++ F1 ∧ (Rep.sl Rep.DMsg).rd w [.slice A0 x.flight.length cap0] x.flight F0 ∧ (Rep.sl Rep.DLink).rd w [.slice A1 x.cuts.length cap1] x.cuts F1 := by
  simp only [Rep.DNet, Rep.via, Rep.pair] at h
  obtain ⟨c0, d0, G0, H0, rfl, rfl, h0, h1⟩ := h
  obtain ⟨A0, cap0, rfl⟩ := Rep.sl_cell h0
  obtain ⟨A1, cap1, rfl⟩ := Rep.sl_cell h1
  exact ⟨A0, cap0, A1, cap1, _, _, by simp, by simp, h0, h1⟩
theorem DNet_make {w : World} {x : DNet} {A0 : Option Addr} {cap0 : Nat} {F0 : List Nat} {A1 : Option Addr} {cap1 : Nat} {F1 : List Nat}  (h0 : (Rep.sl Rep.DMsg).rd w [.slice A0 x.flight.length cap0] x.flight F0) (h1 : (Rep.sl Rep.DLink).rd w [.slice A1 x.cuts.length cap1] x.cuts F1) : Rep.DNet.rd w [.slice A0 x.flight.length cap0, .slice A1 x.cuts.length cap1] x (F0 ++ F1) := by
  simp only [Rep.DNet, Rep.via, Rep.pair]
  exact ⟨_, _, (F0), (F1), rfl, (by simp), h0, h1⟩
theorem DNet_at {w : World} {A : Option Addr} {xs : List Value} {l : List DNet} {G : List Nat} (hr : Row w A xs) (ha : Rep.DNet.all w xs l G) {k : Nat} (hk : k < l.length) : ∃ (b off : Nat) (A0 : Option Addr) (cap0 : Nat) (A1 : Option Addr) (cap1 : Nat) (F0 F1 : List Nat), A = some ⟨b, off, none⟩ ∧ w.cell? ⟨b, off + k * 2, none⟩ = some (.slice A0 l[k].flight.length cap0) ∧ w.cell? ⟨b, off + k * 2 + 1, none⟩ = some (.slice A1 l[k].cuts.length cap1) ∧ (Rep.sl Rep.DMsg).rd w [.slice A0 l[k].flight.length cap0] l[k].flight F0 ∧ (Rep.sl Rep.DLink).rd w [.slice A1 l[k].cuts.length cap1] l[k].cuts F1 ∧ (∀ g ∈ F0, g ∈ G) ∧ (∀ g ∈ F1, g ∈ G) := by
  obtain ⟨b, off, cs, F, rfl, hrd, hF, hc⟩ := Rep.sl_at hr ha (by decide) hk
  obtain ⟨A0, cap0, A1, cap1, F0, F1, rfl, hFe, h0, h1⟩ := DNet_open hrd
  rw [show Rep.DNet.size = 2 from rfl] at hc
  exact ⟨b, off, A0, cap0, A1, cap1, F0, F1, rfl, hc 0 _ rfl, hc 1 _ rfl, h0, h1, fun g hg => hF g (by rw [hFe]; simp [hg]), fun g hg => hF g (by rw [hFe]; simp [hg])⟩

structure DWant where
  kind : Int
  op : DOp
  key : Int
  deriving DecidableEq
def Rep.DWant : Rep DWant := Rep.via (fun x => (x.kind, x.op, x.key)) (Rep.pair (Rep.int .i64) (Rep.pair Rep.DOp (Rep.int .i64)))
theorem DWant_open {w : World} {cs : List Value} {x : DWant} {F : List Nat} (h : Rep.DWant.rd w cs x F) : cs = [.int .i64 x.kind, .int .i64 x.op.kind, .int .i64 x.op.a, .int .i64 x.op.b, .int .i64 x.op.c, .int .i64 x.op.d, .int .i64 x.key] ∧ F = [] ∧ (Lit.int .i64 x.kind).wf = true ∧ (Lit.int .i64 x.op.kind).wf = true ∧ (Lit.int .i64 x.op.a).wf = true ∧ (Lit.int .i64 x.op.b).wf = true ∧ (Lit.int .i64 x.op.c).wf = true ∧ (Lit.int .i64 x.op.d).wf = true ∧ (Lit.int .i64 x.key).wf = true := by
  simp only [Rep.DWant, Rep.via, Rep.pair, Rep.DOp] at h
  obtain ⟨c0, d0, G0, H0, rfl, rfl, ⟨rfl, w0, rfl⟩, ⟨c1, d1, G1, H1, rfl, rfl, ⟨c2, d2, G2, H2, rfl, rfl, ⟨rfl, w1, rfl⟩, ⟨c3, d3, G3, H3, rfl, rfl, ⟨rfl, w2, rfl⟩, ⟨c4, d4, G4, H4, rfl, rfl, ⟨rfl, w3, rfl⟩, ⟨c5, d5, G5, H5, rfl, rfl, ⟨rfl, w4, rfl⟩, ⟨rfl, w5, rfl⟩⟩⟩⟩⟩, ⟨rfl, w6, rfl⟩⟩⟩ := h
  exact ⟨by simp, by simp, w0, w1, w2, w3, w4, w5, w6⟩
theorem DWant_make {w : World} {x : DWant}  (w0 : (Lit.int .i64 x.kind).wf = true) (w1 : (Lit.int .i64 x.op.kind).wf = true) (w2 : (Lit.int .i64 x.op.a).wf = true) (w3 : (Lit.int .i64 x.op.b).wf = true) (w4 : (Lit.int .i64 x.op.c).wf = true) (w5 : (Lit.int .i64 x.op.d).wf = true) (w6 : (Lit.int .i64 x.key).wf = true)  : Rep.DWant.rd w [.int .i64 x.kind, .int .i64 x.op.kind, .int .i64 x.op.a, .int .i64 x.op.b, .int .i64 x.op.c, .int .i64 x.op.d, .int .i64 x.key] x ([]) := by
  simp only [Rep.DWant, Rep.via, Rep.pair, Rep.DOp]
  exact ⟨_, _, [], [], rfl, (by simp), ⟨rfl, w0, rfl⟩, ⟨_, _, [], [], rfl, (by simp), ⟨_, _, [], [], rfl, (by simp), ⟨rfl, w1, rfl⟩, ⟨_, _, [], [], rfl, (by simp), ⟨rfl, w2, rfl⟩, ⟨_, _, [], [], rfl, (by simp), ⟨rfl, w3, rfl⟩, ⟨_, _, [], [], rfl, (by simp), ⟨rfl, w4, rfl⟩, ⟨rfl, w5, rfl⟩⟩⟩⟩⟩, ⟨rfl, w6, rfl⟩⟩⟩
theorem DWant_at {w : World} {A : Option Addr} {xs : List Value} {l : List DWant} {G : List Nat} (hr : Row w A xs) (ha : Rep.DWant.all w xs l G) {k : Nat} (hk : k < l.length) : ∃ (b off : Nat), A = some ⟨b, off, none⟩ ∧ w.cell? ⟨b, off + k * 7, none⟩ = some (.int .i64 l[k].kind) ∧ w.cell? ⟨b, off + k * 7 + 1, none⟩ = some (.int .i64 l[k].op.kind) ∧ w.cell? ⟨b, off + k * 7 + 2, none⟩ = some (.int .i64 l[k].op.a) ∧ w.cell? ⟨b, off + k * 7 + 3, none⟩ = some (.int .i64 l[k].op.b) ∧ w.cell? ⟨b, off + k * 7 + 4, none⟩ = some (.int .i64 l[k].op.c) ∧ w.cell? ⟨b, off + k * 7 + 5, none⟩ = some (.int .i64 l[k].op.d) ∧ w.cell? ⟨b, off + k * 7 + 6, none⟩ = some (.int .i64 l[k].key) ∧ (Lit.int .i64 l[k].kind).wf = true ∧ (Lit.int .i64 l[k].op.kind).wf = true ∧ (Lit.int .i64 l[k].op.a).wf = true ∧ (Lit.int .i64 l[k].op.b).wf = true ∧ (Lit.int .i64 l[k].op.c).wf = true ∧ (Lit.int .i64 l[k].op.d).wf = true ∧ (Lit.int .i64 l[k].key).wf = true := by
  obtain ⟨b, off, cs, F, rfl, hrd, hF, hc⟩ := Rep.sl_at hr ha (by decide) hk
  obtain ⟨rfl, hFe, w0, w1, w2, w3, w4, w5, w6⟩ := DWant_open hrd
  rw [show Rep.DWant.size = 7 from rfl] at hc
  exact ⟨b, off, rfl, hc 0 _ rfl, hc 1 _ rfl, hc 2 _ rfl, hc 3 _ rfl, hc 4 _ rfl, hc 5 _ rfl, hc 6 _ rfl, w0, w1, w2, w3, w4, w5, w6⟩

end Go.Proofs.YthmckpghadfeeaaGreat
