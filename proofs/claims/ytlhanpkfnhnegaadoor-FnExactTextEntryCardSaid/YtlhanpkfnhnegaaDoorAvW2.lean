/- The scanner's method word: walked once; its contract over abstract values. -/
import Derived.Test.YtlhanpkfnhnegaaDoorAvW1
import Derived.Defers
import Derived.Lib.BufferOwn
import Derived.Lib.Hide
set_option linter.unusedVariables false
set_option linter.unusedSimpArgs false
set_option maxRecDepth 100000
namespace Go.Proofs.YtlhanpkfnhnegaaDoor
open Go.RowKit

theorem cell_alloc_old {w : World} {o : Obj} {b i : Nat} {v : Value} (hb : b < w.heap.size) (h : w.cell? ⟨b, i, none⟩ = some v) : (w.alloc o).cell? ⟨b, i, none⟩ = some v :=
  (World.cell?_of_block (a := ⟨b, i, none⟩) ((grownBy_alloc w o none).block b hb (by simp))).trans h
theorem word1_d (N b : Nat) (n : Int) (u : FrameMode) (w : World) (h0 : w.cell? ⟨N, 0, none⟩ = some (.pointer (some ⟨b, 0, none⟩))) (h3 : w.cell? ⟨b, 3, none⟩ = some (.int .i64 n)) (hz : w.frozen? ⟨b, 3, none⟩ = false) :
    CallsD Tryd.prog 152 #[.pointer (some ⟨N, 0, none⟩)] u w fun e u' w' => u' = u ∧ (e = .returned (.tuple #[]) ∧ w' = w.setCell ⟨b, 3, none⟩ (.int .i64 (wrap64 (n + 1)))) := by
  go_enter_d Tryd.func152, Tryd.ntmps152
  go_wp2
  go_end0
  exact ⟨rfl, rfl⟩
theorem word_done (b : Nat) (u0 u3 : Value) (u2 : Bool) (w : World) (hg : w.heap[b]? = some (.cells #[u0, .bool true, .bool u2, u3] 118 (0, 0))) :
    Calls Tryd.prog 138 #[.pointer (some ⟨b, 0, none⟩)] w fun e w' => e = .returned (.string ⟨#[]⟩) ∧ w.grownBy w' (some b) ∧ w'.heap[b]? = some (.cells #[u0, .bool true, .bool true, u3] 118 (0, 0)) := by
  have hlt : b < w.heap.size := (Array.getElem?_eq_some_iff.1 hg).1
  have h1 : w.cell? ⟨b, 1, none⟩ = some (.bool true) := by rw [Lib.cell_of_heap hg]; rfl
  have h2 : w.cell? ⟨b, 2, none⟩ = some (.bool u2) := by rw [Lib.cell_of_heap hg]; rfl
  have hz := Lib.frozen_of_heap hg 2
  have hne : ¬ b = w.heap.size := by omega
  have hne' : ¬ w.heap.size = b := by omega
  have hg0 := Lib.hid hg
  clear hg
  go_enter Tryd.func138, Tryd.ntmps138
  go_wp2
  go_ret
  have hg := hg0.out
  exact ⟨rfl, Lib.grownBy_trans (Lib.grownBy_setCell w b 2 _) (grownBy_alloc _ _ _), by
    rw [Below.heap_alloc _ _ b (by simpa [World.setCell] using hlt)]
    exact heap_setCell_cells (us := [u0, .bool true, .bool u2, u3]) hg⟩
theorem word_more (b : Nat) (x : List UInt8) (ws : List (List UInt8)) (n : Int) (u2 : Value) (w : World) (hx : 32 ∉ x) (hs : (joinL 32 (x :: ws)).length < 4294967281) (h00 : ∃ m, w.cell? ⟨0, 0, none⟩ = some (.int .i64 m))
    (hg : w.heap[b]? = some (.cells #[.string ⟨(joinL 32 (x :: ws)).toArray⟩, .bool false, u2, .int .i64 n] 118 (0, 0))) :
    Calls Tryd.prog 138 #[.pointer (some ⟨b, 0, none⟩)] w fun e w' => e = .returned (.string ⟨x.toArray⟩) ∧ w.grownBy w' (some b) ∧ w'.heap[b]? = some (.cells #[.string ⟨(joinL 32 ws).toArray⟩, .bool ws.isEmpty, u2, .int .i64 (wrap64 (n + 1))] 118 (0, 0)) := by
  obtain ⟨m, h00⟩ := h00
  have hlt : b < w.heap.size := (Array.getElem?_eq_some_iff.1 hg).1
  have h0 : w.cell? ⟨b, 0, none⟩ = some (.string ⟨(joinL 32 (x :: ws)).toArray⟩) := by rw [Lib.cell_of_heap hg]; rfl
  have h1 : w.cell? ⟨b, 1, none⟩ = some (.bool false) := by rw [Lib.cell_of_heap hg]; rfl
  have hg0 := Lib.hid hg
  clear hg
  have hmf : ∀ (fn : Fn) (first cap : Array Value) (w : World), (Instr.makeFunc fn first cap).run Tryd.prog w = .ok (.func fn first cap) w := fun _ _ _ _ => rfl
  have mixed : Tryd.prog.follows .mixedOrders = true := by kernel_rfl
  have hne : ¬ b = w.heap.size := by omega
  have hne' : ¬ w.heap.size = b := by omega
  have hp : 0 < w.heap.size := by omega
  have hp0 : ¬ 0 = w.heap.size := by omega
  go_enter_defers Tryd.func138, Tryd.ntmps138
  go_wp2_with (go_at_call 111; refine (cut_calls 32 x ws hx hs _ m (cell_alloc_old hp h00)).mono ?_; rintro e w' ⟨rfl, k, rfl⟩)
  have hgW : ((w.alloc (.cells #[.pointer (some ⟨b, 0, none⟩)] 116)).drewN k).heap[b]? = some (.cells #[.string ⟨(joinL 32 (x :: ws)).toArray⟩, .bool false, u2, .int .i64 n] 118 (0, 0)) := (Below.heap_alloc w _ b hlt).trans hg0.out
  have hgN : ((w.alloc (.cells #[.pointer (some ⟨b, 0, none⟩)] 116)).drewN k).heap[w.heap.size]? = some (.cells #[.pointer (some ⟨b, 0, none⟩)] 116 (0, 0)) := by show (w.heap.push _)[w.heap.size]? = _; rw [Array.getElem?_push_size]
  have hgr : w.grownBy ((w.alloc (.cells #[.pointer (some ⟨b, 0, none⟩)] 116)).drewN k) (some b) := ⟨rfl, rfl, rfl, (by show w.heap.size ≤ (w.heap.push _).size; rw [Array.size_push]; omega), fun j hj _ => Below.heap_alloc w _ j hj⟩
  generalize (w.alloc (.cells #[.pointer (some ⟨b, 0, none⟩)] 116)).drewN k = W at *
  generalize w.heap.size = N at *
  have d0 : W.cell? ⟨b, 0, none⟩ = some (.string ⟨(joinL 32 (x :: ws)).toArray⟩) := by rw [Lib.cell_of_heap hgW]; rfl
  have d1 : W.cell? ⟨b, 1, none⟩ = some (.bool false) := by rw [Lib.cell_of_heap hgW]; rfl
  have d3 : W.cell? ⟨b, 3, none⟩ = some (.int .i64 n) := by rw [Lib.cell_of_heap hgW]; rfl
  have dN : W.cell? ⟨N, 0, none⟩ = some (.pointer (some ⟨b, 0, none⟩)) := by rw [Lib.cell_of_heap hgN]; rfl
  have e0 := Lib.frozen_of_heap hgW 0
  have e1 := Lib.frozen_of_heap hgW 1
  have e3 := Lib.frozen_of_heap hgW 3
  have hgW0 := Lib.hid hgW
  have hgr0 := Lib.hid hgr
  clear hgW hgN hgr
  go_wp2
  go_region_o
  all_goals
    go_wp2
    refine leaves_cons (f := 152) (args := #[.pointer (some ⟨N, 0, none⟩)]) (by simp) (by simp [go_sem]) ?_
    have k1 : ∀ (a : Addr) (u v : Value), a ≠ ⟨b, 0, none⟩ → a ≠ ⟨b, 1, none⟩ → ((W.setCell ⟨b, 0, none⟩ u).setCell ⟨b, 1, none⟩ v).cell? a = W.cell? a := fun a u v h1 h2 =>
      (World.cell?_setCell_other _ ⟨b, 1, none⟩ a v (fun e => h2 e.symm)).trans (World.cell?_setCell_other W ⟨b, 0, none⟩ a u (fun e => h1 e.symm))
    refine (word1_d N b n .returning (((W.setCell ⟨b, 0, none⟩ (.string ⟨(joinL 32 ws).toArray⟩)).setCell ⟨b, 1, none⟩ (.bool ws.isEmpty)).drew) ?q1 ?q2 ?q3).mono ?_
    case q1 => exact (k1 ⟨N, 0, none⟩ _ _ (by simp [hne']) (by simp [hne'])).trans dN
    case q2 => exact (k1 ⟨b, 3, none⟩ _ _ (by simp) (by simp)).trans d3
    case q3 => simp [e3]
    rintro e u' w'' ⟨rfl, rfl, rfl⟩
    have hgW := hgW0.out
    have hgr := hgr0.out
    refine ⟨_, results_tmp rfl _ _ _, rfl, ?_, ?_⟩
    · refine Lib.grownBy_setB (Lib.grownBy_trans (Lib.grownBy_setB (Lib.grownBy_setB hgr 0 (.string ⟨(joinL 32 ws).toArray⟩)) 1 (.bool ws.isEmpty)) ?_) 3 _
      exact ⟨rfl, rfl, rfl, Nat.le_refl _, fun _ _ _ => rfl⟩
    · have a0 : W.heap[b]? = some (.cells [.string ⟨(joinL 32 (x :: ws)).toArray⟩, .bool false, u2, .int .i64 n].toArray 118 (0, 0)) := hgW
      have a1 := heap_setCell_cells (i := 1) (v := .bool ws.isEmpty) (heap_setCell_cells (i := 0) (v := .string ⟨(joinL 32 ws).toArray⟩) a0)
      exact heap_setCell_cells (w := ((W.setCell ⟨b, 0, none⟩ (.string ⟨(joinL 32 ws).toArray⟩)).setCell ⟨b, 1, none⟩ (.bool ws.isEmpty)).drew) (b := b) (i := 3) (t := 118) (us := [.string ⟨(joinL 32 ws).toArray⟩, .bool ws.isEmpty, u2, .int .i64 n]) a1
/-! The scanner's states: the words that are left, whether something was bad, how many were read. -/
structure Sc where
  ws : List (List UInt8)
  bad : Bool
  at_ : Int
def Sc.ok (s : Sc) : Prop := (∀ w ∈ s.ws, (32 : UInt8) ∉ w) ∧ (joinL 32 s.ws).length ≤ 2000000
abbrev Sc.o (s : Sc) : AO := .cells 118 [.d (dL (joinL 32 s.ws)), .d (dB s.ws.isEmpty), .d (dB s.bad), .d (dI s.at_)]
def Sc.next (s : Sc) : Sc := match s.ws with
  | [] => { s with bad := true }
  | _ :: r => { s with ws := r, at_ := wrap64 (s.at_ + 1) }
def Sc.cur (s : Sc) : List UInt8 := s.ws.headD []
theorem joinL_tail {c : UInt8} {w : List UInt8} {ws : List (List UInt8)} : (joinL c ws).length ≤ (joinL c (w :: ws)).length := by
  cases ws with
  | nil => simp [joinL]
  | cons v ws => simp only [joinL, List.length_append, List.length_cons]; omega
theorem joinL_head {c : UInt8} {w : List UInt8} {ws : List (List UInt8)} : w.length ≤ (joinL c (w :: ws)).length := by
  cases ws with
  | nil => simp [joinL]
  | cons v ws => simp only [joinL, List.length_append, List.length_cons]; omega
theorem Sc.ok.next {s : Sc} (h : s.ok) : s.next.ok := by
  obtain ⟨ws, bad, at_⟩ := s
  obtain ⟨h1, h2⟩ := h
  cases ws with
  | nil => exact ⟨h1, h2⟩
  | cons w ws => exact ⟨fun x hx => h1 x (List.mem_cons_of_mem _ hx), Nat.le_trans joinL_tail h2⟩
theorem Sc.ok.cur {s : Sc} (h : s.ok) : s.cur.length ≤ 2000000 := by
  obtain ⟨ws, bad, at_⟩ := s
  obtain ⟨h1, h2⟩ := h
  cases ws with
  | nil => exact Nat.zero_le _
  | cons w ws => exact Nat.le_trans joinL_head h2
theorem word_m (s : Sc) (hs : s.ok) : MCall av 138 [.one (.ref 1000 0 0 0)] [(1000, s.o)] [(1000, s.next.o)] [1000] (.val (.one (.d (dL s.cur)))) := by
  refine MCall.of_upd (id := 1000) (o := s.o) (o' := s.next.o) Tryd.call138 rfl fun Z w ρ us hws ho hl hr => ?_
  obtain ⟨ws, bad, n⟩ := s
  obtain ⟨hno, hsz⟩ := hs
  obtain ⟨b, cs, hp, hg, hcl, hc⟩ := ho
  obtain ⟨u, rfl⟩ := List.length_eq_one_iff.1 hl
  obtain ⟨b', hb', rfl⟩ := relA_ref (hr 0 _ _ rfl rfl)
  rw [hp] at hb'
  injection hb' with hb'
  subst hb'
  match cs, hcl with
  | [u0, u1, u2, u3], _ =>
    have h0 : u0 = _ := rel_pv (hc 0 _ _ rfl rfl)
    have h1 : u1 = _ := rel_pv (hc 1 _ _ rfl rfl)
    have h2 : u2 = _ := rel_pv (hc 2 _ _ rfl rfl)
    have h3 : u3 = _ := rel_pv (hc 3 _ _ rfl rfl)
    subst h0 h1 h2 h3
    have fin : ∀ (w' : World) (t : Sc), w'.heap[b]? = some (.cells #[.string ⟨(joinL 32 t.ws).toArray⟩, .bool t.ws.isEmpty, .bool t.bad, .int .i64 t.at_] 118 (0, 0)) → RelO Z w' ρ 1000 t.o := by
      intro w' t h
      refine ⟨b, [.string ⟨(joinL 32 t.ws).toArray⟩, .bool t.ws.isEmpty, .bool t.bad, .int .i64 t.at_], hp, h, rfl, fun i c u hx hu => ?_⟩
      match i with
      | 0 => simp at hx hu; subst hx hu; exact .pv _ rfl
      | 1 => simp at hx hu; subst hx hu; exact .pv _ rfl
      | 2 => simp at hx hu; subst hx hu; exact .pv _ rfl
      | 3 => simp at hx hu; subst hx hu; exact .pv _ rfl
      | i + 4 => simp at hx
    cases ws with
    | nil =>
      refine (word_done b _ _ bad w hg).mono ?_
      rintro e w' ⟨rfl, hgr, hh⟩
      exact ⟨_, b, rfl, by rw [hp]; rfl, hgr, fin w' ⟨[], true, n⟩ hh, .one _ _ (show RelD Z _ (.pv _) _ from .pv _ rfl)⟩
    | cons x ws =>
      have hW := gz_w av_ok hws.g
      refine (word_more b x ws n _ w (hno x (by simp)) (by simp only at hsz; omega) hW.2 hg).mono ?_
      rintro e w' ⟨rfl, hgr, hh⟩
      exact ⟨_, b, rfl, by rw [hp]; rfl, hgr, fin w' ⟨ws, bad, wrap64 (n + 1)⟩ hh, .one _ _ (show RelD Z _ (.pv _) _ from .pv _ rfl)⟩
end Go.Proofs.YtlhanpkfnhnegaaDoor
