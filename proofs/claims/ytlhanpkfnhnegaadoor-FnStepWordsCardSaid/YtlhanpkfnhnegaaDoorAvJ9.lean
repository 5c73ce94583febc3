/- Joined by join.py: AvY1 AvY2 AvY3 AvY4 AvY6 AvZ0 AvZ4 -/
import Derived.Test.YtlhanpkfnhnegaaDoorAvJ4
import Derived.Test.YtlhanpkfnhnegaaDoorAvR
import Derived.Test.YtlhanpkfnhnegaaDoorAvEnv
import Derived.Test.YtlhanpkfnhnegaaDoorAvT3
set_option linter.unusedVariables false
set_option linter.unusedSimpArgs false
set_option maxRecDepth 100000
/- The laws' dice. -/
namespace Go.Proofs.YtlhanpkfnhnegaaDoor
open Go.RowKit

theorem andI_u64 {a b : Int} (hb : 0 ≤ b ∧ b ≤ 18446744073709551615) : 0 ≤ andI .u64 a b ∧ andI .u64 a b ≤ b := by
  obtain ⟨n, rfl⟩ := Int.eq_ofNat_of_zero_le hb.1
  have h1 : (BitVec.ofInt 64 a &&& BitVec.ofInt 64 (n : Int)).toNat ≤ n := by
    rw [BitVec.toNat_and]
    refine Nat.le_trans Nat.and_le_right ?_
    rw [BitVec.toNat_ofInt]
    omega
  unfold andI
  rw [IntKind.wrap_u64]
  show 0 ≤ ((BitVec.ofInt 64 a &&& BitVec.ofInt 64 (n : Int)).toNat : Int) % _ ∧ ((BitVec.ofInt 64 a &&& BitVec.ofInt 64 (n : Int)).toNat : Int) % _ ≤ _
  generalize (BitVec.ofInt 64 a &&& BitVec.ofInt 64 (n : Int)).toNat = m at h1
  omega
/-- The dice: the bytes, how many are used, the state. -/
structure Dc where
  b : List Int
  i : Nat
  h : Int
def Dc.ok (d : Dc) : Prop := d.b.length ≤ 4096 ∧ d.i ≤ d.b.length ∧ ∀ x ∈ d.b, 0 ≤ x ∧ x ≤ 255
abbrev vU64 (h : Int) : AD := .pv (.int .u64 h)
abbrev Dc.o (d : Dc) : AO := .cells 133 [.d (.sl (d.b.map eU)), .d (dI d.i), .d (vU64 d.h)]
/- The numbers are hidden from the kernel. -/
theorem mul_ex : ∃ f : Int → Int, ∀ h, f h = IntKind.u64.wrap (h * 6364136223846793005) := ⟨_, fun _ => rfl⟩
noncomputable def dMul : Int → Int := Classical.choose mul_ex
theorem dMul_eq (h : Int) : IntKind.u64.wrap (h * 6364136223846793005) = dMul h := (Classical.choose_spec mul_ex h).symm
theorem mix_ex : ∃ f : Int → Int, ∀ h, f h = IntKind.u64.wrap (dMul h + 1442695040888963407) := ⟨_, fun _ => rfl⟩
noncomputable def dMix : Int → Int := Classical.choose mix_ex
theorem dMix_eq (h : Int) : IntKind.u64.wrap (dMul h + 1442695040888963407) = dMix h := (Classical.choose_spec mix_ex h).symm
theorem bits_ex : ∃ f : Int → Int, ∀ h, f h = andI .u64 (shrI .u64 h 33) 16777215 := ⟨_, fun _ => rfl⟩
noncomputable def dBits : Int → Int := Classical.choose bits_ex
theorem dBits_def (h : Int) : dBits h = andI .u64 (shrI .u64 h 33) 16777215 := Classical.choose_spec bits_ex h
theorem dBits_range (h : Int) : 0 ≤ dBits h ∧ dBits h ≤ 16777215 := by rw [dBits_def]; exact andI_u64 (by omega)
theorem dBits_eq (h : Int) : IntKind.i64.wrap (andI .u64 (shrI .u64 h 33) 16777215) = dBits h := by
  have := dBits_range h
  rw [← dBits_def, wrap_i64_of (by omega) (by omega)]
noncomputable def Dc.raw (d : Dc) : Int := dBits (dMix d.h) + (d.b.getD d.i 0)
noncomputable def Dc.val (d : Dc) (n : Int) : Int := d.raw.tmod n
noncomputable def Dc.next (d : Dc) : Dc := ⟨d.b, if d.i < d.b.length then d.i + 1 else d.i, dMix d.h⟩
theorem Dc.ok.next {d : Dc} (h : d.ok) : d.next.ok := by
  refine ⟨h.1, ?_, h.2.2⟩
  have := h.2.1
  show (if d.i < d.b.length then d.i + 1 else d.i) ≤ d.b.length
  split <;> omega
theorem Dc.ok.get {d : Dc} (h : d.ok) : 0 ≤ d.b.getD d.i 0 ∧ d.b.getD d.i 0 ≤ 255 := by
  rw [List.getD_eq_getElem?_getD]
  cases e : d.b[d.i]? with
  | none => simp
  | some x => exact h.2.2 x (List.mem_of_getElem? e)
theorem Dc.ok.raw {d : Dc} (h : d.ok) : 0 ≤ d.raw ∧ d.raw ≤ 16777470 := by
  have h1 := h.get
  have h2 := dBits_range (dMix d.h)
  unfold Dc.raw
  omega
theorem Dc.ok.val {d : Dc} (h : d.ok) {n : Int} (hn : 0 < n) : 0 ≤ d.val n ∧ d.val n < n := by
  have h1 := h.raw
  unfold Dc.val
  rw [Int.tmod_eq_emod_of_nonneg h1.1]
  exact ⟨Int.emod_nonneg _ (by omega), Int.emod_lt_of_pos _ hn⟩
theorem below_m (d : Dc) (n : Int) (hd : d.ok) (hn : 0 < n) : MCall av 54 [.one (.ref 1000 0 0 0), .one (.d (dI n))] [(1000, d.o)] [(1000, d.next.o)] [1000] (.val (.one (.d (dI (d.val n))))) := by
  have hr := hd.raw
  have hne : n ≠ 0 := by omega
  obtain ⟨b, i, h⟩ := d
  have h2 := dBits_range (dMix h)
  have hb3 := hd.2.2
  by_cases hi : i < b.length
  · have hi' : decide (((i : Nat) : Int) < ((b.map eU).length : Int)) = true := by simp [hi]
    have hbi := hb3 b[i] (List.getElem_mem hi)
    have hg : b.getD i 0 = b[i] := by simp [hi]
    have hi2 : i + 1 ≤ 4096 := by have := hd.1; simp only at this; omega
    have e1 : (⟨b, i, h⟩ : Dc).next = ⟨b, i + 1, dMix h⟩ := by unfold Dc.next; simp only [if_pos hi]
    have e2 : (⟨b, i, h⟩ : Dc).val n = (dBits (dMix h) + b[i]).tmod n := by unfold Dc.val Dc.raw; simp only [hg]
    rw [e1, e2]
    dsimp only [Dc.o]
    refine mcall_of av_ok Tryd.func54 rfl Tryd.call54 Tryd.ntmps54 (congrArg Array.toList Tryd.results54) rfl fun S pv => ?_; conv => whnf
    repeat' (first | (refine AWP.seq ?_) | (refine AWP.region av_ok ?_; conv => whnf) | (refine AWP.ret ?_; conv => whnf) | (refine AWP.skip ?_; conv => whnf) | (refine AWP.exit ?_; conv => whnf) | (refine AWP.block ?_; conv => whnf) | (refine AWP.cond ?_; conv => whnf) | (refine AB.tt ?_; conv => whnf) | (refine AB.ff ?_; conv => whnf) | (refine AB.ofT (by assumption) ?_; conv => whnf) | (refine AB.ofF (by assumption) ?_; conv => whnf) | (refine AW.as (dMul h) (dMul_eq h) ?_; conv => whnf) | (refine AW.as (dMix h) (dMix_eq h) ?_; conv => whnf) | (refine AW.as (dBits (dMix h)) (dBits_eq _) ?_; conv => whnf) | (exact trivial) | (refine And.intro rfl ?_; conv => whnf) | (refine AB.mk (fun h => ?_) (fun h => ?_) <;> (conv => whnf)) | (with_reducible_and_instances rfl) | (exact (rfl : AP.tup _ = AP.tup _)))
    refine' AWP.draw av_ok 9 [[], [0], [0, 1], [1, 0, 2], [], [4], [4, 5], [5, 4, 6], [6, 4, 5, 7], [7, 5, 4, 6, 8, 2, 0, 1, 3]] [(_, _), (_, _), (_, _), (_, _), (_, _), (_, _), (_, _), (_, _), (_, _)] ?hD ?hok ?hl ?hf ?hno ?ht
    case hD => kernel_rfl
    case hok => kernel_rfl
    case hl => rfl
    case hf =>
      conv => whnf
      repeat' (first | (refine ⟨rfl, rfl⟩) | exact trivial | (refine And.intro ?_ ?_ <;> conv => whnf))
    case hno => rfl
    case ht =>
      conv => whnf
      repeat' (first | (refine AWP.seq ?_) | (refine AWP.region av_ok ?_; conv => whnf) | (refine AWP.ret ?_; conv => whnf) | (refine AWP.skip ?_; conv => whnf) | (refine AWP.exit ?_; conv => whnf) | (refine AWP.block ?_; conv => whnf) | (refine AWP.cond ?_; conv => whnf) | (refine AB.tt ?_; conv => whnf) | (refine AB.ff ?_; conv => whnf) | (refine AB.ofT (by assumption) ?_; conv => whnf) | (refine AB.ofF (by assumption) ?_; conv => whnf) | (exact trivial) | (refine And.intro rfl ?_; conv => whnf) | (refine AB.mk (fun h => ?_) (fun h => ?_) <;> (conv => whnf)) | (with_reducible_and_instances rfl) | (exact (rfl : AP.tup _ = AP.tup _)))
      refine' AWP.draw av_ok 12 [[], [], [1], [1, 2], [2, 1, 3], [], [5], [5, 6], [6, 5, 7], [7, 5, 6, 8, 3, 1, 2, 4], [4, 2, 1, 3, 8, 6, 5, 7, 9], [9, 7, 5, 6, 8, 3, 1, 2, 4, 10], [10, 4, 2, 1, 3, 8, 6, 5, 7, 9, 11, 0], [0, 11, 9, 7, 5, 6, 8, 3, 1, 2, 4, 10, 12]] [(_, _), (_, _), (_, _), (_, _), (_, _), (_, _), (_, _), (_, _), (_, _), (_, _), (_, _), (_, _)] ?hD ?hok ?hl ?hf ?hno ?ht
      case hD => kernel_rfl
      case hok => kernel_rfl
      case hl => rfl
      case hf =>
        conv => whnf
        repeat' (first | (refine ⟨rfl, rfl⟩) | exact trivial | (refine AIx.map hi ?_; conv => whnf) | (refine AW.i64 (by omega) (by omega) ?_; conv => whnf) | (refine And.intro ?_ ?_ <;> conv => whnf))
      case hno => rfl
      case ht =>
        conv => whnf
        repeat' (first | (refine AWP.seq ?_) | (refine AWP.region av_ok ?_; conv => whnf) | (refine AWP.ret ?_; conv => whnf) | (refine AWP.skip ?_; conv => whnf) | (refine AWP.exit ?_; conv => whnf) | (refine AWP.block ?_; conv => whnf) | (refine AWP.cond ?_; conv => whnf) | (refine AB.tt ?_; conv => whnf) | (refine AB.ff ?_; conv => whnf) | (refine AB.ofT (by assumption) ?_; conv => whnf) | (refine AB.ofF (by assumption) ?_; conv => whnf) | (refine AW.i64 (by omega) (by omega) ?_; conv => whnf) | (refine And.intro hne ?_; conv => whnf) | (exact trivial) | (refine And.intro rfl ?_; conv => whnf) | (refine AB.mk (fun h => ?_) (fun h => ?_) <;> (conv => whnf)) | (with_reducible_and_instances rfl) | (exact (rfl : AP.tup _ = AP.tup _)))
  · have hi' : decide (((i : Nat) : Int) < ((b.map eU).length : Int)) = false := by simp; omega
    have hg : b.getD i 0 = 0 := by simp [hi]
    have e1 : (⟨b, i, h⟩ : Dc).next = ⟨b, i, dMix h⟩ := by unfold Dc.next; simp only [if_neg hi]
    have e2 : (⟨b, i, h⟩ : Dc).val n = (dBits (dMix h)).tmod n := by unfold Dc.val Dc.raw; simp only [hg, Int.add_zero]
    rw [e1, e2]
    dsimp only [Dc.o]
    refine mcall_of av_ok Tryd.func54 rfl Tryd.call54 Tryd.ntmps54 (congrArg Array.toList Tryd.results54) rfl fun S pv => ?_; conv => whnf
    repeat' (first | (refine AWP.seq ?_) | (refine AWP.region av_ok ?_; conv => whnf) | (refine AWP.ret ?_; conv => whnf) | (refine AWP.skip ?_; conv => whnf) | (refine AWP.exit ?_; conv => whnf) | (refine AWP.block ?_; conv => whnf) | (refine AWP.cond ?_; conv => whnf) | (refine AB.tt ?_; conv => whnf) | (refine AB.ff ?_; conv => whnf) | (refine AB.ofT (by assumption) ?_; conv => whnf) | (refine AB.ofF (by assumption) ?_; conv => whnf) | (refine AW.as (dMul h) (dMul_eq h) ?_; conv => whnf) | (refine AW.as (dMix h) (dMix_eq h) ?_; conv => whnf) | (refine AW.as (dBits (dMix h)) (dBits_eq _) ?_; conv => whnf) | (exact trivial) | (refine And.intro rfl ?_; conv => whnf) | (refine AB.mk (fun h => ?_) (fun h => ?_) <;> (conv => whnf)) | (with_reducible_and_instances rfl) | (exact (rfl : AP.tup _ = AP.tup _)))
    refine' AWP.draw av_ok 9 [[], [0], [0, 1], [1, 0, 2], [], [4], [4, 5], [5, 4, 6], [6, 4, 5, 7], [7, 5, 4, 6, 8, 2, 0, 1, 3]] [(_, _), (_, _), (_, _), (_, _), (_, _), (_, _), (_, _), (_, _), (_, _)] ?hD ?hok ?hl ?hf ?hno ?ht
    case hD => kernel_rfl
    case hok => kernel_rfl
    case hl => rfl
    case hf =>
      conv => whnf
      repeat' (first | (refine ⟨rfl, rfl⟩) | exact trivial | (refine And.intro ?_ ?_ <;> conv => whnf))
    case hno => rfl
    case ht =>
      conv => whnf
      repeat' (first | (refine AWP.seq ?_) | (refine AWP.region av_ok ?_; conv => whnf) | (refine AWP.ret ?_; conv => whnf) | (refine AWP.skip ?_; conv => whnf) | (refine AWP.exit ?_; conv => whnf) | (refine AWP.block ?_; conv => whnf) | (refine AWP.cond ?_; conv => whnf) | (refine AB.tt ?_; conv => whnf) | (refine AB.ff ?_; conv => whnf) | (refine AB.ofT (by assumption) ?_; conv => whnf) | (refine AB.ofF (by assumption) ?_; conv => whnf) | (refine And.intro hne ?_; conv => whnf) | (exact trivial) | (refine And.intro rfl ?_; conv => whnf) | (refine AB.mk (fun h => ?_) (fun h => ?_) <;> (conv => whnf)) | (with_reducible_and_instances rfl) | (exact (rfl : AP.tup _ = AP.tup _)))
end Go.Proofs.YtlhanpkfnhnegaaDoor
/- The laws' dice: rolled; fates drawn. -/
namespace Go.Proofs.YtlhanpkfnhnegaaDoor
open Go.RowKit

theorem wU_ex : ∃ f : Int → Int, ∀ x, f x = IntKind.u64.wrap x := ⟨_, fun _ => rfl⟩
noncomputable def wU : Int → Int := Classical.choose wU_ex
theorem wU_eq (x : Int) : IntKind.u64.wrap x = wU x := (Classical.choose_spec wU_ex x).symm
noncomputable def rollS (h b : Int) : Int := wU (wU (wU (h * 1099511628211) + wU b) + 3)
noncomputable def rollL (l : List Int) (h : Int) : Int := l.foldl rollS h
noncomputable def rollD (l : List Int) (s : Int) : Dc := ⟨l, 0, rollL l (wU (wU (s * 7919) + wU ((l.map eU).length : Int)))⟩
theorem szY {a b c : Nat} {Q : Prop} (h : (a + b) * c ≤ 140737488355328) (q : Q) : (a + b) * c ≤ 140737488355328 ∧ Q := ⟨h, q⟩
noncomputable def Dc.skip (d : Dc) : Nat → Dc
  | 0 => d
  | k + 1 => (d.skip k).next
theorem Dc.ok.skip {d : Dc} (h : d.ok) : ∀ k, (d.skip k).ok
  | 0 => h
  | k + 1 => (h.skip k).next
/-- k numbers below n. -/
noncomputable def Dc.nums (d : Dc) (n : Int) (k : Nat) : List Int := (List.range k).map fun j => (d.skip j).val n
theorem Dc.nums_succ (d : Dc) (n : Int) (k : Nat) : d.nums n (k + 1) = d.nums n k ++ [(d.skip k).val n] := by simp [Dc.nums, List.range_succ]
theorem Dc.nums_len (d : Dc) (n : Int) (k : Nat) : (d.nums n k).length = k := by simp [Dc.nums]
theorem roll_m (l : List Int) (s : Int) (hl : l.length ≤ 4096) : MCall av 53 [.one (.d (.sl (l.map eU))), .one (.d (vU64 s))] [] [(15, (rollD l s).o)] [] (.val (.one (.ref 15 0 0 0))) := by
  refine mcall_of av_ok Tryd.func53 rfl Tryd.call53 Tryd.ntmps53 (congrArg Array.toList Tryd.results53) rfl fun S pv => ?_; conv => whnf
  repeat' (first | (refine AWP.seq ?_) | (refine AWP.region av_ok ?_; conv => whnf) | (refine AWP.ret ?_; conv => whnf) | (refine AWP.skip ?_; conv => whnf) | (refine AWP.exit ?_; conv => whnf) | (refine AWP.block ?_; conv => whnf) | (refine AWP.cond ?_; conv => whnf) | (refine AB.tt ?_; conv => whnf) | (refine AB.ff ?_; conv => whnf) | (refine AB.ofT (by assumption) ?_; conv => whnf) | (refine AB.ofF (by assumption) ?_; conv => whnf) | (refine AW.as (wU _) (wU_eq _) ?_; conv => whnf) | (exact trivial) | (refine And.intro rfl ?_; conv => whnf) | (refine AB.mk (fun h => ?_) (fun h => ?_) <;> (conv => whnf)) | (with_reducible_and_instances rfl) | (exact (rfl : AP.tup _ = AP.tup _)))
  refine AWP.loopS (fun k : Nat => k ≤ l.length) [6, 16, 17, 18, 19, 20, 21, 22, 23, 24, 25, 26, 27, 28, 29, 30, 31, 32, 33, 34, 35, 36] (fun k => [(6, vI .i64 (k : Int))]) (fun k => [(9999, .frame (pinsOf []) pv), (15, .cells 133 [.d (.sl (l.map eU)), .d (dI 0), .d (vU64 (rollL (l.take k) (wU (wU (s * 7919) + wU ((l.map eU).length : Int)))))])]) (fun k => l.length - k) 0 (by omega) ?_ (SubO.cons rfl (SubO.cons rfl SubO.nil)) (fun k hR => ?_) <;> (conv => whnf)
  · repeat' (first | exact trivial | (refine And.intro rfl ?_; conv => whnf))
  · repeat' (first | (refine AWP.seq ?_) | (refine AWP.region av_ok ?_; conv => whnf) | (refine AWP.ret ?_; conv => whnf) | (refine AWP.skip ?_; conv => whnf) | (refine AWP.exit ?_; conv => whnf) | (refine AWP.block ?_; conv => whnf) | (refine AWP.cond ?_; conv => whnf) | (refine AB.tt ?_; conv => whnf) | (refine AB.ff ?_; conv => whnf) | (refine AB.ofT (by assumption) ?_; conv => whnf) | (refine AB.ofF (by assumption) ?_; conv => whnf) | (refine And.intro rfl ?_; conv => whnf))
    refine AB.mk (fun h => ?_) (fun h => ?_) <;> (conv => whnf)
    · have hlt : k < l.length := (by simp only [decide_eq_true_eq, decide_eq_false_iff_not, List.length_map, Bool.not_eq_true', Bool.not_eq_false'] at *; omega)
      repeat' (first | (refine AWP.seq ?_) | (refine AWP.region av_ok ?_; conv => whnf) | (refine AWP.ret ?_; conv => whnf) | (refine AWP.skip ?_; conv => whnf) | (refine AWP.exit ?_; conv => whnf) | (refine AWP.block ?_; conv => whnf) | (refine AWP.cond ?_; conv => whnf) | (refine AB.tt ?_; conv => whnf) | (refine AB.ff ?_; conv => whnf) | (refine AB.ofT (by assumption) ?_; conv => whnf) | (refine AB.ofF (by assumption) ?_; conv => whnf) | (refine And.intro rfl ?_; conv => whnf))
      refine' AWP.draw av_ok 13 [[], [], [1], [1, 2], [2, 1, 3], [3, 1, 2, 4], [], [], [7, 6], [6, 7, 8], [8, 7, 6, 9], [9, 6, 7, 8, 10, 4, 2, 1, 3, 5], [5, 3, 1, 2, 4, 10, 8, 7, 6, 9, 11], [12, 11, 10, 9, 8, 7, 6, 5, 4, 3, 2, 1, 0], [0, 1, 2, 3, 4, 5, 6, 7, 8, 9, 10, 11, 12, 13], [13, 12, 11, 10, 9, 8, 7, 6, 5, 4, 3, 2, 1, 0, 14]] [(_, _), (_, _), (_, _), (_, _), (_, _), (_, _), (_, _), (_, _), (_, _), (_, _), (_, _), (_, _), (_, _)] ?hD ?hok ?hl ?hf ?hno ?ht
      case hD => kernel_rfl
      case hok => kernel_rfl
      case hl => rfl
      case hf =>
        conv => whnf
        repeat' (first | (refine ⟨rfl, rfl⟩) | exact trivial | (refine AIx.map hlt ?_; conv => whnf) | (refine AW.as (wU _) (wU_eq _) ?_; conv => whnf) | (refine And.intro ?_ ?_ <;> conv => whnf))
      case hno => rfl
      case ht =>
        conv => whnf
        repeat' (first | (refine AWP.seq ?_) | (refine AWP.region av_ok ?_; conv => whnf) | (refine AWP.ret ?_; conv => whnf) | (refine AWP.skip ?_; conv => whnf) | (refine AWP.exit ?_; conv => whnf) | (refine AWP.block ?_; conv => whnf) | (refine AWP.cond ?_; conv => whnf) | (refine AB.tt ?_; conv => whnf) | (refine AB.ff ?_; conv => whnf) | (refine AB.ofT (by assumption) ?_; conv => whnf) | (refine AB.ofF (by assumption) ?_; conv => whnf) | (refine AW.i64 (by simp only [decide_eq_true_eq, decide_eq_false_iff_not, List.length_map, Bool.not_eq_true', Bool.not_eq_false'] at *; omega) (by simp only [decide_eq_true_eq, decide_eq_false_iff_not, List.length_map, Bool.not_eq_true', Bool.not_eq_false'] at *; omega) ?_; conv => whnf) | (exact trivial) | (refine And.intro rfl ?_; conv => whnf))
        have hstep : rollS (rollL (l.take k) (wU (wU (s * 7919) + wU ((l.map eU).length : Int)))) l[k] = rollL (l.take (k + 1)) (wU (wU (s * 7919) + wU ((l.map eU).length : Int))) := by
          unfold rollL
          rw [← List.take_append_getElem hlt, List.foldl_append]; rfl
        refine ANext.mk ⟨k + 1, hlt, by omega, ?_, SubO.cons rfl (SubO.cons (congrArg (fun h => some (AO.cells 133 [.d (.sl (l.map eU)), .d (dI 0), .d (vU64 h)])) hstep) SubO.nil)⟩
        (conv => whnf); repeat' (first | exact trivial | (refine ⟨rfl, ?_⟩; conv => whnf))
    · have hk : k = l.length := (by simp only [decide_eq_true_eq, decide_eq_false_iff_not, List.length_map, Bool.not_eq_true', Bool.not_eq_false'] at *; omega)
      subst hk
      rw [List.take_length]
      unfold rollD
      repeat' (first | (refine AWP.seq ?_) | (refine AWP.region av_ok ?_; conv => whnf) | (refine AWP.ret ?_; conv => whnf) | (refine AWP.skip ?_; conv => whnf) | (refine AWP.exit ?_; conv => whnf) | (refine AWP.block ?_; conv => whnf) | (refine AWP.cond ?_; conv => whnf) | (refine AB.tt ?_; conv => whnf) | (refine AB.ff ?_; conv => whnf) | (refine AB.ofT (by assumption) ?_; conv => whnf) | (refine AB.ofF (by assumption) ?_; conv => whnf) | (exact trivial) | (refine And.intro rfl ?_; conv => whnf) | (refine AB.mk (fun h => ?_) (fun h => ?_) <;> (conv => whnf)) | (with_reducible_and_instances rfl) | (exact (rfl : AP.tup _ = AP.tup _)))
theorem w9Fates_m (d : Dc) (n : Nat) (hd : d.ok) (hn : n ≤ 1000) : MCall av 55 [.one (.ref 1000 0 0 0), .one (.d (dI (n : Int)))] [(1000, d.o)] [(1000, (d.skip n).o), (6, .row 2 1 ((d.nums 3 n).map eI))] [1000] (.val (.one (.own 6))) := by
  refine mcall_of av_ok Tryd.func55 rfl Tryd.call55 Tryd.ntmps55 (congrArg Array.toList Tryd.results55) rfl fun S pv => ?_; conv => whnf
  repeat' (first | (refine AWP.seq ?_) | (refine AWP.region av_ok ?_; conv => whnf) | (refine AWP.ret ?_; conv => whnf) | (refine AWP.skip ?_; conv => whnf) | (refine AWP.exit ?_; conv => whnf) | (refine AWP.block ?_; conv => whnf) | (refine AWP.cond ?_; conv => whnf) | (refine AB.tt ?_; conv => whnf) | (refine AB.ff ?_; conv => whnf) | (refine AB.ofT (by assumption) ?_; conv => whnf) | (refine AB.ofF (by assumption) ?_; conv => whnf) | (exact trivial) | (refine And.intro rfl ?_; conv => whnf) | (refine AB.mk (fun h => ?_) (fun h => ?_) <;> (conv => whnf)) | (with_reducible_and_instances rfl) | (exact (rfl : AP.tup _ = AP.tup _)))
  refine AWP.loopS (fun k : Nat => k ≤ n) (6 :: [1, 5, 7, 8, 9, 10, 11, 12, 13, 14, 15]) (fun k => [(1, vI .i64 ((n - k : Nat) : Int)), (5, .one (.own 6))]) (fun k => [(9999, .frame (pinsOf [1000]) pv), (1000, (d.skip k).o), (6, .row 2 1 ((d.nums 3 k).map eI))]) (fun k => n - k) 0 (by omega) ?_ (SubO.cons rfl (SubO.cons rfl (SubO.cons rfl SubO.nil))) (fun k hR => ?_) <;> (conv => whnf)
  · repeat' (first | exact trivial | (refine And.intro rfl ?_; conv => whnf))
  · have bm := below_m (d.skip k) 3 (hd.skip k) (by omega)
    have hnl := d.nums_len 3 k
    repeat' (first | (refine AWP.seq ?_) | (refine AWP.region av_ok ?_; conv => whnf) | (refine AWP.ret ?_; conv => whnf) | (refine AWP.skip ?_; conv => whnf) | (refine AWP.exit ?_; conv => whnf) | (refine AWP.block ?_; conv => whnf) | (refine AWP.cond ?_; conv => whnf) | (refine AB.tt ?_; conv => whnf) | (refine AB.ff ?_; conv => whnf) | (refine AB.ofT (by assumption) ?_; conv => whnf) | (refine AB.ofF (by assumption) ?_; conv => whnf) | (refine ACall.upd bm 1000 rfl rfl rfl ?_; conv => whnf) | (refine all_len (by simp [eI]) ?_; conv => whnf) | (refine szY (by simp only [List.length_map, hnl, List.length_cons, List.length_nil]; omega) ?_; conv => whnf) | (refine AW.as ((n - (k + 1) : Nat) : Int) (by rw [wrap_i64_of (by omega) (by omega)]; simp only [decide_eq_true_eq] at *; omega) ?_; conv => whnf) | (exact trivial) | (refine And.intro rfl ?_; conv => whnf) | (refine AB.mk (fun h => ?_) (fun h => ?_) <;> (conv => whnf)) | (with_reducible_and_instances rfl) | (exact (rfl : AP.tup _ = AP.tup _)))
    · have hlt : k < n := by simp only [decide_eq_true_eq] at *; omega
      have hrow : (d.nums 3 k).map eI ++ [[dI ((d.skip k).val 3)]] = (d.nums 3 (k + 1)).map eI := by rw [Dc.nums_succ, List.map_append]; rfl
      refine ANext.mk ⟨k + 1, hlt, by omega, ?_, SubO.cons rfl (SubO.cons rfl (SubO.cons (congrArg some (congrArg (AO.row 2 1) hrow)) SubO.nil))⟩
      (conv => whnf); repeat' (first | exact trivial | (refine ⟨rfl, ?_⟩; conv => whnf))
    · have hk : k = n := by simp only [decide_eq_false_iff_not] at *; omega
      subst hk
      repeat' (first | (refine AWP.seq ?_) | (refine AWP.region av_ok ?_; conv => whnf) | (refine AWP.ret ?_; conv => whnf) | (refine AWP.skip ?_; conv => whnf) | (refine AWP.exit ?_; conv => whnf) | (refine AWP.block ?_; conv => whnf) | (refine AWP.cond ?_; conv => whnf) | (refine AB.tt ?_; conv => whnf) | (refine AB.ff ?_; conv => whnf) | (refine AB.ofT (by assumption) ?_; conv => whnf) | (refine AB.ofF (by assumption) ?_; conv => whnf) | (exact trivial) | (refine And.intro rfl ?_; conv => whnf) | (refine AB.mk (fun h => ?_) (fun h => ?_) <;> (conv => whnf)) | (with_reducible_and_instances rfl) | (exact (rfl : AP.tup _ = AP.tup _)))
end Go.Proofs.YtlhanpkfnhnegaaDoor
/- The laws' dice: an operation drawn. -/
namespace Go.Proofs.YtlhanpkfnhnegaaDoor
open Go.RowKit

noncomputable def dOp (d : Dc) : Int × Int × Int × Int × Int × Dc :=
  if d.val 5 = 0 then (2, (d.skip 1).val 10, 0, 0, 0, d.skip 2)
  else if d.val 5 = 1 then (3, 1 + (d.skip 1).val 20, (d.skip 2).val 90, (d.skip 3).val 10, (d.skip 4).val 1000, d.skip 5)
  else if d.val 5 = 2 then (4, 1 + (d.skip 1).val 20, (d.skip 2).val 5, 0, 0, d.skip 3)
  else if d.val 5 = 3 then (5, 1 + (d.skip 1).val 40, 0, 0, 0, d.skip 2)
  else (1, (d.skip 1).val 10, (d.skip 2).val 1000, 0, 0, d.skip 3)
abbrev five (a b c e f : Int) : List AC := [.d (dI a), .d (dI b), .d (dI c), .d (dI e), .d (dI f)]
theorem w9Op_0 (d : Dc) (hd : d.ok) (hv : d.val 5 = 0) : MCall av 110 [.one (.ref 1000 0 0 0)] [(1000, d.o)] [(1000, (d.skip 2).o)] [1000] (.val (.agg (five 2 ((d.skip 1).val 10) 0 0 0))) := by
  have b0 := below_m d 5 hd (by omega)
  rw [hv] at b0
  have b1 := below_m (d.skip 1) 10 (hd.skip 1) (by omega)
  have b2 := b1
  have b3 := b1
  have b4 := b1
  refine mcall_of av_ok Tryd.func110 rfl Tryd.call110 Tryd.ntmps110 (congrArg Array.toList Tryd.results110) rfl fun S pv => ?_; conv => whnf
  repeat' (first | (refine AWP.seq ?_) | (refine AWP.region av_ok ?_; conv => whnf) | (refine AWP.ret ?_; conv => whnf) | (refine AWP.skip ?_; conv => whnf) | (refine AWP.exit ?_; conv => whnf) | (refine AWP.block ?_; conv => whnf) | (refine AWP.cond ?_; conv => whnf) | (refine AB.tt ?_; conv => whnf) | (refine AB.ff ?_; conv => whnf) | (refine AB.ofT (by assumption) ?_; conv => whnf) | (refine AB.ofF (by assumption) ?_; conv => whnf) | (refine ACall.upd b0 1000 rfl rfl rfl ?_; conv => whnf) | (refine ACall.upd b1 1000 rfl rfl rfl ?_; conv => whnf) | (refine ACall.upd b2 1000 rfl rfl rfl ?_; conv => whnf) | (refine ACall.upd b3 1000 rfl rfl rfl ?_; conv => whnf) | (refine ACall.upd b4 1000 rfl rfl rfl ?_; conv => whnf) | (refine AB.ofT (by decide) ?_; conv => whnf) | (refine AB.ofF (by decide) ?_; conv => whnf) | (exact trivial) | (refine And.intro rfl ?_; conv => whnf) | (refine AB.mk (fun h => ?_) (fun h => ?_) <;> (conv => whnf)) | (with_reducible_and_instances rfl) | (exact (rfl : AP.tup _ = AP.tup _)))
theorem w9Op_1 (d : Dc) (hd : d.ok) (hv : d.val 5 = 1) : MCall av 110 [.one (.ref 1000 0 0 0)] [(1000, d.o)] [(1000, (d.skip 5).o)] [1000] (.val (.agg (five 3 (1 + (d.skip 1).val 20) ((d.skip 2).val 90) ((d.skip 3).val 10) ((d.skip 4).val 1000)))) := by
  have b0 := below_m d 5 hd (by omega)
  rw [hv] at b0
  have b1 := below_m (d.skip 1) 20 (hd.skip 1) (by omega)
  have r1 := (hd.skip 1).val (n := 20) (by omega)
  have b2 := below_m (d.skip 2) 90 (hd.skip 2) (by omega)
  have b3 := below_m (d.skip 3) 10 (hd.skip 3) (by omega)
  have b4 := below_m (d.skip 4) 1000 (hd.skip 4) (by omega)
  refine mcall_of av_ok Tryd.func110 rfl Tryd.call110 Tryd.ntmps110 (congrArg Array.toList Tryd.results110) rfl fun S pv => ?_; conv => whnf
  repeat' (first | (refine AWP.seq ?_) | (refine AWP.region av_ok ?_; conv => whnf) | (refine AWP.ret ?_; conv => whnf) | (refine AWP.skip ?_; conv => whnf) | (refine AWP.exit ?_; conv => whnf) | (refine AWP.block ?_; conv => whnf) | (refine AWP.cond ?_; conv => whnf) | (refine AB.tt ?_; conv => whnf) | (refine AB.ff ?_; conv => whnf) | (refine AB.ofT (by assumption) ?_; conv => whnf) | (refine AB.ofF (by assumption) ?_; conv => whnf) | (refine ACall.upd b0 1000 rfl rfl rfl ?_; conv => whnf) | (refine ACall.upd b1 1000 rfl rfl rfl ?_; conv => whnf) | (refine ACall.upd b2 1000 rfl rfl rfl ?_; conv => whnf) | (refine ACall.upd b3 1000 rfl rfl rfl ?_; conv => whnf) | (refine ACall.upd b4 1000 rfl rfl rfl ?_; conv => whnf) | (refine AB.ofT (by decide) ?_; conv => whnf) | (refine AB.ofF (by decide) ?_; conv => whnf) | (refine AW.i64 (by omega) (by omega) ?_; conv => whnf) | (exact trivial) | (refine And.intro rfl ?_; conv => whnf) | (refine AB.mk (fun h => ?_) (fun h => ?_) <;> (conv => whnf)) | (with_reducible_and_instances rfl) | (exact (rfl : AP.tup _ = AP.tup _)))
theorem w9Op_2 (d : Dc) (hd : d.ok) (hv : d.val 5 = 2) : MCall av 110 [.one (.ref 1000 0 0 0)] [(1000, d.o)] [(1000, (d.skip 3).o)] [1000] (.val (.agg (five 4 (1 + (d.skip 1).val 20) ((d.skip 2).val 5) 0 0))) := by
  have b0 := below_m d 5 hd (by omega)
  rw [hv] at b0
  have b1 := below_m (d.skip 1) 20 (hd.skip 1) (by omega)
  have r1 := (hd.skip 1).val (n := 20) (by omega)
  have b2 := below_m (d.skip 2) 5 (hd.skip 2) (by omega)
  have b3 := b1
  have b4 := b1
  refine mcall_of av_ok Tryd.func110 rfl Tryd.call110 Tryd.ntmps110 (congrArg Array.toList Tryd.results110) rfl fun S pv => ?_; conv => whnf
  repeat' (first | (refine AWP.seq ?_) | (refine AWP.region av_ok ?_; conv => whnf) | (refine AWP.ret ?_; conv => whnf) | (refine AWP.skip ?_; conv => whnf) | (refine AWP.exit ?_; conv => whnf) | (refine AWP.block ?_; conv => whnf) | (refine AWP.cond ?_; conv => whnf) | (refine AB.tt ?_; conv => whnf) | (refine AB.ff ?_; conv => whnf) | (refine AB.ofT (by assumption) ?_; conv => whnf) | (refine AB.ofF (by assumption) ?_; conv => whnf) | (refine ACall.upd b0 1000 rfl rfl rfl ?_; conv => whnf) | (refine ACall.upd b1 1000 rfl rfl rfl ?_; conv => whnf) | (refine ACall.upd b2 1000 rfl rfl rfl ?_; conv => whnf) | (refine ACall.upd b3 1000 rfl rfl rfl ?_; conv => whnf) | (refine ACall.upd b4 1000 rfl rfl rfl ?_; conv => whnf) | (refine AB.ofT (by decide) ?_; conv => whnf) | (refine AB.ofF (by decide) ?_; conv => whnf) | (refine AW.i64 (by omega) (by omega) ?_; conv => whnf) | (exact trivial) | (refine And.intro rfl ?_; conv => whnf) | (refine AB.mk (fun h => ?_) (fun h => ?_) <;> (conv => whnf)) | (with_reducible_and_instances rfl) | (exact (rfl : AP.tup _ = AP.tup _)))
theorem w9Op_3 (d : Dc) (hd : d.ok) (hv : d.val 5 = 3) : MCall av 110 [.one (.ref 1000 0 0 0)] [(1000, d.o)] [(1000, (d.skip 2).o)] [1000] (.val (.agg (five 5 (1 + (d.skip 1).val 40) 0 0 0))) := by
  have b0 := below_m d 5 hd (by omega)
  rw [hv] at b0
  have b1 := below_m (d.skip 1) 40 (hd.skip 1) (by omega)
  have r1 := (hd.skip 1).val (n := 40) (by omega)
  have b2 := b1
  have b3 := b1
  have b4 := b1
  refine mcall_of av_ok Tryd.func110 rfl Tryd.call110 Tryd.ntmps110 (congrArg Array.toList Tryd.results110) rfl fun S pv => ?_; conv => whnf
  repeat' (first | (refine AWP.seq ?_) | (refine AWP.region av_ok ?_; conv => whnf) | (refine AWP.ret ?_; conv => whnf) | (refine AWP.skip ?_; conv => whnf) | (refine AWP.exit ?_; conv => whnf) | (refine AWP.block ?_; conv => whnf) | (refine AWP.cond ?_; conv => whnf) | (refine AB.tt ?_; conv => whnf) | (refine AB.ff ?_; conv => whnf) | (refine AB.ofT (by assumption) ?_; conv => whnf) | (refine AB.ofF (by assumption) ?_; conv => whnf) | (refine ACall.upd b0 1000 rfl rfl rfl ?_; conv => whnf) | (refine ACall.upd b1 1000 rfl rfl rfl ?_; conv => whnf) | (refine ACall.upd b2 1000 rfl rfl rfl ?_; conv => whnf) | (refine ACall.upd b3 1000 rfl rfl rfl ?_; conv => whnf) | (refine ACall.upd b4 1000 rfl rfl rfl ?_; conv => whnf) | (refine AB.ofT (by decide) ?_; conv => whnf) | (refine AB.ofF (by decide) ?_; conv => whnf) | (refine AW.i64 (by omega) (by omega) ?_; conv => whnf) | (exact trivial) | (refine And.intro rfl ?_; conv => whnf) | (refine AB.mk (fun h => ?_) (fun h => ?_) <;> (conv => whnf)) | (with_reducible_and_instances rfl) | (exact (rfl : AP.tup _ = AP.tup _)))
theorem w9Op_4 (d : Dc) (hd : d.ok) (hv : d.val 5 = 4) : MCall av 110 [.one (.ref 1000 0 0 0)] [(1000, d.o)] [(1000, (d.skip 3).o)] [1000] (.val (.agg (five 1 ((d.skip 1).val 10) ((d.skip 2).val 1000) 0 0))) := by
  have b0 := below_m d 5 hd (by omega)
  rw [hv] at b0
  have b1 := below_m (d.skip 1) 10 (hd.skip 1) (by omega)
  have b2 := below_m (d.skip 2) 1000 (hd.skip 2) (by omega)
  have b3 := b1
  have b4 := b1
  refine mcall_of av_ok Tryd.func110 rfl Tryd.call110 Tryd.ntmps110 (congrArg Array.toList Tryd.results110) rfl fun S pv => ?_; conv => whnf
  repeat' (first | (refine AWP.seq ?_) | (refine AWP.region av_ok ?_; conv => whnf) | (refine AWP.ret ?_; conv => whnf) | (refine AWP.skip ?_; conv => whnf) | (refine AWP.exit ?_; conv => whnf) | (refine AWP.block ?_; conv => whnf) | (refine AWP.cond ?_; conv => whnf) | (refine AB.tt ?_; conv => whnf) | (refine AB.ff ?_; conv => whnf) | (refine AB.ofT (by assumption) ?_; conv => whnf) | (refine AB.ofF (by assumption) ?_; conv => whnf) | (refine ACall.upd b0 1000 rfl rfl rfl ?_; conv => whnf) | (refine ACall.upd b1 1000 rfl rfl rfl ?_; conv => whnf) | (refine ACall.upd b2 1000 rfl rfl rfl ?_; conv => whnf) | (refine ACall.upd b3 1000 rfl rfl rfl ?_; conv => whnf) | (refine ACall.upd b4 1000 rfl rfl rfl ?_; conv => whnf) | (refine AB.ofT (by decide) ?_; conv => whnf) | (refine AB.ofF (by decide) ?_; conv => whnf) | (refine AW.i64 (by omega) (by omega) ?_; conv => whnf) | (exact trivial) | (refine And.intro rfl ?_; conv => whnf) | (refine AB.mk (fun h => ?_) (fun h => ?_) <;> (conv => whnf)) | (with_reducible_and_instances rfl) | (exact (rfl : AP.tup _ = AP.tup _)))
end Go.Proofs.YtlhanpkfnhnegaaDoor
/- The laws' dice: a request drawn. -/
namespace Go.Proofs.YtlhanpkfnhnegaaDoor
open Go.RowKit

theorem w9Wants_0 (d : Dc) (hd : d.ok) (hv : d.val 4 = 0) : MCall av 56 [.one (.ref 1000 0 0 0), .one (.d (dI 1))] [(1000, d.o)] [(1000, (d.skip 2).o), (6, .row 39 7 [[dI 4, dI 0, dI 0, dI 0, dI 0, dI 0, dI ((d.skip 1).val 10)]])] [1000] (.val (.one (.own 6))) := by
  have b0 := below_m d 4 hd (by omega)
  rw [hv] at b0
  have b1 := below_m (d.skip 1) 10 (hd.skip 1) (by omega)
  have b2 := b1
  have b3 := b1
  have b4 := b1
  refine mcall_of av_ok Tryd.func56 rfl Tryd.call56 Tryd.ntmps56 (congrArg Array.toList Tryd.results56) rfl fun S pv => ?_; conv => whnf
  repeat' (first | (refine AWP.seq ?_) | (refine AWP.region av_ok ?_; conv => whnf) | (refine AWP.ret ?_; conv => whnf) | (refine AWP.skip ?_; conv => whnf) | (refine AWP.exit ?_; conv => whnf) | (refine AWP.block ?_; conv => whnf) | (refine AWP.cond ?_; conv => whnf) | (refine AB.tt ?_; conv => whnf) | (refine AB.ff ?_; conv => whnf) | (refine AB.ofT (by assumption) ?_; conv => whnf) | (refine AB.ofF (by assumption) ?_; conv => whnf) | (exact trivial) | (refine And.intro rfl ?_; conv => whnf) | (refine AB.mk (fun h => ?_) (fun h => ?_) <;> (conv => whnf)) | (with_reducible_and_instances rfl) | (exact (rfl : AP.tup _ = AP.tup _)))
  refine AWP.unroll 2 ?_
  conv => whnf
  repeat' (first | (refine AWP.seq ?_) | (refine AWP.region av_ok ?_; conv => whnf) | (refine AWP.ret ?_; conv => whnf) | (refine AWP.skip ?_; conv => whnf) | (refine AWP.exit ?_; conv => whnf) | (refine AWP.block ?_; conv => whnf) | (refine AWP.cond ?_; conv => whnf) | (refine AB.tt ?_; conv => whnf) | (refine AB.ff ?_; conv => whnf) | (refine AB.ofT (by assumption) ?_; conv => whnf) | (refine AB.ofF (by assumption) ?_; conv => whnf) | (refine ACall.upd b0 1000 rfl rfl rfl ?_; conv => whnf) | (refine ACall.upd b1 1000 rfl rfl rfl ?_; conv => whnf) | (refine ACall.upd b2 1000 rfl rfl rfl ?_; conv => whnf) | (refine ACall.upd b3 1000 rfl rfl rfl ?_; conv => whnf) | (refine ACall.upd b4 1000 rfl rfl rfl ?_; conv => whnf) | (refine AB.ofT (by decide) ?_; conv => whnf) | (refine AB.ofF (by decide) ?_; conv => whnf) | (refine AW.i64 (by omega) (by omega) ?_; conv => whnf) | (refine all_len (by simp) ?_; conv => whnf) | (refine szY (by simp) ?_; conv => whnf) | (exact trivial) | (refine And.intro rfl ?_; conv => whnf) | (refine AB.mk (fun h => ?_) (fun h => ?_) <;> (conv => whnf)) | (with_reducible_and_instances rfl) | (exact (rfl : AP.tup _ = AP.tup _)))
theorem w9Wants_1 (d : Dc) (hd : d.ok) (hv : d.val 4 = 1) : MCall av 56 [.one (.ref 1000 0 0 0), .one (.d (dI 1))] [(1000, d.o)] [(1000, (d.skip 2).o), (6, .row 39 7 [[dI 2, dI 2, dI ((d.skip 1).val 10), dI 0, dI 0, dI 0, dI 0]])] [1000] (.val (.one (.own 6))) := by
  have b0 := below_m d 4 hd (by omega)
  rw [hv] at b0
  have b1 := below_m (d.skip 1) 10 (hd.skip 1) (by omega)
  have b2 := b1
  have b3 := b1
  have b4 := b1
  refine mcall_of av_ok Tryd.func56 rfl Tryd.call56 Tryd.ntmps56 (congrArg Array.toList Tryd.results56) rfl fun S pv => ?_; conv => whnf
  repeat' (first | (refine AWP.seq ?_) | (refine AWP.region av_ok ?_; conv => whnf) | (refine AWP.ret ?_; conv => whnf) | (refine AWP.skip ?_; conv => whnf) | (refine AWP.exit ?_; conv => whnf) | (refine AWP.block ?_; conv => whnf) | (refine AWP.cond ?_; conv => whnf) | (refine AB.tt ?_; conv => whnf) | (refine AB.ff ?_; conv => whnf) | (refine AB.ofT (by assumption) ?_; conv => whnf) | (refine AB.ofF (by assumption) ?_; conv => whnf) | (exact trivial) | (refine And.intro rfl ?_; conv => whnf) | (refine AB.mk (fun h => ?_) (fun h => ?_) <;> (conv => whnf)) | (with_reducible_and_instances rfl) | (exact (rfl : AP.tup _ = AP.tup _)))
  refine AWP.unroll 2 ?_
  conv => whnf
  repeat' (first | (refine AWP.seq ?_) | (refine AWP.region av_ok ?_; conv => whnf) | (refine AWP.ret ?_; conv => whnf) | (refine AWP.skip ?_; conv => whnf) | (refine AWP.exit ?_; conv => whnf) | (refine AWP.block ?_; conv => whnf) | (refine AWP.cond ?_; conv => whnf) | (refine AB.tt ?_; conv => whnf) | (refine AB.ff ?_; conv => whnf) | (refine AB.ofT (by assumption) ?_; conv => whnf) | (refine AB.ofF (by assumption) ?_; conv => whnf) | (refine ACall.upd b0 1000 rfl rfl rfl ?_; conv => whnf) | (refine ACall.upd b1 1000 rfl rfl rfl ?_; conv => whnf) | (refine ACall.upd b2 1000 rfl rfl rfl ?_; conv => whnf) | (refine ACall.upd b3 1000 rfl rfl rfl ?_; conv => whnf) | (refine ACall.upd b4 1000 rfl rfl rfl ?_; conv => whnf) | (refine AB.ofT (by decide) ?_; conv => whnf) | (refine AB.ofF (by decide) ?_; conv => whnf) | (refine AW.i64 (by omega) (by omega) ?_; conv => whnf) | (refine all_len (by simp) ?_; conv => whnf) | (refine szY (by simp) ?_; conv => whnf) | (exact trivial) | (refine And.intro rfl ?_; conv => whnf) | (refine AB.mk (fun h => ?_) (fun h => ?_) <;> (conv => whnf)) | (with_reducible_and_instances rfl) | (exact (rfl : AP.tup _ = AP.tup _)))
theorem w9Wants_2 (d : Dc) (hd : d.ok) (hv : d.val 4 = 2) : MCall av 56 [.one (.ref 1000 0 0 0), .one (.d (dI 1))] [(1000, d.o)] [(1000, (d.skip 5).o), (6, .row 39 7 [[dI 3, dI 3, dI (1 + (d.skip 1).val 9), dI ((d.skip 2).val 50), dI ((d.skip 3).val 10), dI ((d.skip 4).val 90), dI 0]])] [1000] (.val (.one (.own 6))) := by
  have b0 := below_m d 4 hd (by omega)
  rw [hv] at b0
  have b1 := below_m (d.skip 1) 9 (hd.skip 1) (by omega)
  have r1 := (hd.skip 1).val (n := 9) (by omega)
  have b2 := below_m (d.skip 2) 50 (hd.skip 2) (by omega)
  have b3 := below_m (d.skip 3) 10 (hd.skip 3) (by omega)
  have b4 := below_m (d.skip 4) 90 (hd.skip 4) (by omega)
  refine mcall_of av_ok Tryd.func56 rfl Tryd.call56 Tryd.ntmps56 (congrArg Array.toList Tryd.results56) rfl fun S pv => ?_; conv => whnf
  repeat' (first | (refine AWP.seq ?_) | (refine AWP.region av_ok ?_; conv => whnf) | (refine AWP.ret ?_; conv => whnf) | (refine AWP.skip ?_; conv => whnf) | (refine AWP.exit ?_; conv => whnf) | (refine AWP.block ?_; conv => whnf) | (refine AWP.cond ?_; conv => whnf) | (refine AB.tt ?_; conv => whnf) | (refine AB.ff ?_; conv => whnf) | (refine AB.ofT (by assumption) ?_; conv => whnf) | (refine AB.ofF (by assumption) ?_; conv => whnf) | (exact trivial) | (refine And.intro rfl ?_; conv => whnf) | (refine AB.mk (fun h => ?_) (fun h => ?_) <;> (conv => whnf)) | (with_reducible_and_instances rfl) | (exact (rfl : AP.tup _ = AP.tup _)))
  refine AWP.unroll 2 ?_
  conv => whnf
  repeat' (first | (refine AWP.seq ?_) | (refine AWP.region av_ok ?_; conv => whnf) | (refine AWP.ret ?_; conv => whnf) | (refine AWP.skip ?_; conv => whnf) | (refine AWP.exit ?_; conv => whnf) | (refine AWP.block ?_; conv => whnf) | (refine AWP.cond ?_; conv => whnf) | (refine AB.tt ?_; conv => whnf) | (refine AB.ff ?_; conv => whnf) | (refine AB.ofT (by assumption) ?_; conv => whnf) | (refine AB.ofF (by assumption) ?_; conv => whnf) | (refine ACall.upd b0 1000 rfl rfl rfl ?_; conv => whnf) | (refine ACall.upd b1 1000 rfl rfl rfl ?_; conv => whnf) | (refine ACall.upd b2 1000 rfl rfl rfl ?_; conv => whnf) | (refine ACall.upd b3 1000 rfl rfl rfl ?_; conv => whnf) | (refine ACall.upd b4 1000 rfl rfl rfl ?_; conv => whnf) | (refine AB.ofT (by decide) ?_; conv => whnf) | (refine AB.ofF (by decide) ?_; conv => whnf) | (refine AW.i64 (by omega) (by omega) ?_; conv => whnf) | (refine all_len (by simp) ?_; conv => whnf) | (refine szY (by simp) ?_; conv => whnf) | (exact trivial) | (refine And.intro rfl ?_; conv => whnf) | (refine AB.mk (fun h => ?_) (fun h => ?_) <;> (conv => whnf)) | (with_reducible_and_instances rfl) | (exact (rfl : AP.tup _ = AP.tup _)))
theorem w9Wants_3 (d : Dc) (hd : d.ok) (hv : d.val 4 = 3) : MCall av 56 [.one (.ref 1000 0 0 0), .one (.d (dI 1))] [(1000, d.o)] [(1000, (d.skip 3).o), (6, .row 39 7 [[dI 1, dI 1, dI ((d.skip 1).val 10), dI ((d.skip 2).val 90), dI 0, dI 0, dI 0]])] [1000] (.val (.one (.own 6))) := by
  have b0 := below_m d 4 hd (by omega)
  rw [hv] at b0
  have b1 := below_m (d.skip 1) 10 (hd.skip 1) (by omega)
  have b2 := below_m (d.skip 2) 90 (hd.skip 2) (by omega)
  have b3 := b1
  have b4 := b1
  refine mcall_of av_ok Tryd.func56 rfl Tryd.call56 Tryd.ntmps56 (congrArg Array.toList Tryd.results56) rfl fun S pv => ?_; conv => whnf
  repeat' (first | (refine AWP.seq ?_) | (refine AWP.region av_ok ?_; conv => whnf) | (refine AWP.ret ?_; conv => whnf) | (refine AWP.skip ?_; conv => whnf) | (refine AWP.exit ?_; conv => whnf) | (refine AWP.block ?_; conv => whnf) | (refine AWP.cond ?_; conv => whnf) | (refine AB.tt ?_; conv => whnf) | (refine AB.ff ?_; conv => whnf) | (refine AB.ofT (by assumption) ?_; conv => whnf) | (refine AB.ofF (by assumption) ?_; conv => whnf) | (exact trivial) | (refine And.intro rfl ?_; conv => whnf) | (refine AB.mk (fun h => ?_) (fun h => ?_) <;> (conv => whnf)) | (with_reducible_and_instances rfl) | (exact (rfl : AP.tup _ = AP.tup _)))
  refine AWP.unroll 2 ?_
  conv => whnf
  repeat' (first | (refine AWP.seq ?_) | (refine AWP.region av_ok ?_; conv => whnf) | (refine AWP.ret ?_; conv => whnf) | (refine AWP.skip ?_; conv => whnf) | (refine AWP.exit ?_; conv => whnf) | (refine AWP.block ?_; conv => whnf) | (refine AWP.cond ?_; conv => whnf) | (refine AB.tt ?_; conv => whnf) | (refine AB.ff ?_; conv => whnf) | (refine AB.ofT (by assumption) ?_; conv => whnf) | (refine AB.ofF (by assumption) ?_; conv => whnf) | (refine ACall.upd b0 1000 rfl rfl rfl ?_; conv => whnf) | (refine ACall.upd b1 1000 rfl rfl rfl ?_; conv => whnf) | (refine ACall.upd b2 1000 rfl rfl rfl ?_; conv => whnf) | (refine ACall.upd b3 1000 rfl rfl rfl ?_; conv => whnf) | (refine ACall.upd b4 1000 rfl rfl rfl ?_; conv => whnf) | (refine AB.ofT (by decide) ?_; conv => whnf) | (refine AB.ofF (by decide) ?_; conv => whnf) | (refine AW.i64 (by omega) (by omega) ?_; conv => whnf) | (refine all_len (by simp) ?_; conv => whnf) | (refine szY (by simp) ?_; conv => whnf) | (exact trivial) | (refine And.intro rfl ?_; conv => whnf) | (refine AB.mk (fun h => ?_) (fun h => ?_) <;> (conv => whnf)) | (with_reducible_and_instances rfl) | (exact (rfl : AP.tup _ = AP.tup _)))
end Go.Proofs.YtlhanpkfnhnegaaDoor
/- The laws' dice: an operation, a request, whichever comes; a list of two entries. -/
namespace Go.Proofs.YtlhanpkfnhnegaaDoor
open Go.RowKit

theorem opOk_of {k a b c e : Int} (h : (k = 1 ∧ (0 ≤ a ∧ a ≤ 9) ∧ (0 ≤ b ∧ b ≤ 999) ∧ c = 0 ∧ e = 0) ∨ (k = 2 ∧ (0 ≤ a ∧ a ≤ 9) ∧ b = 0 ∧ c = 0 ∧ e = 0) ∨ (k = 3 ∧ (1 ≤ a ∧ a ≤ 20) ∧ (0 ≤ b ∧ b ≤ 1000000) ∧ (0 ≤ c ∧ c ≤ 9) ∧ (0 ≤ e ∧ e ≤ 999)) ∨ (k = 4 ∧ (1 ≤ a ∧ a ≤ 20) ∧ (0 ≤ b ∧ b ≤ 1000) ∧ c = 0 ∧ e = 0) ∨ (k = 5 ∧ (1 ≤ a ∧ a ≤ 1000) ∧ b = 0 ∧ c = 0 ∧ e = 0)) : opOk ⟨k, a, b, c, e⟩ = true := by
  unfold opOk
  rcases h with h | h | h | h | h <;> (obtain ⟨rfl, h⟩ := h; simp [betweenB]; omega)
theorem val5 (d : Dc) (hd : d.ok) : d.val 5 = 0 ∨ d.val 5 = 1 ∨ d.val 5 = 2 ∨ d.val 5 = 3 ∨ d.val 5 = 4 := by
  have := hd.val (n := 5) (by omega); omega
theorem w9Op_ex (d : Dc) (hd : d.ok) : ∃ (o : DOp) (d' : Dc), d'.ok ∧ opOk o = true ∧ MCall av 110 [.one (.ref 1000 0 0 0)] [(1000, d.o)] [(1000, d'.o)] [1000] (.val (.agg (o.ds.map .d))) := by
  rcases val5 d hd with h | h | h | h | h
  · have r1 := (hd.skip 1).val (n := 10) (by omega)
    have m := w9Op_0 d hd h
    generalize (d.skip 1).val 10 = x at r1 m
    exact ⟨⟨2, x, 0, 0, 0⟩, _, hd.skip 2, opOk_of (by omega), m⟩
  · have r1 := (hd.skip 1).val (n := 20) (by omega)
    have r2 := (hd.skip 2).val (n := 90) (by omega)
    have r3 := (hd.skip 3).val (n := 10) (by omega)
    have r4 := (hd.skip 4).val (n := 1000) (by omega)
    have m := w9Op_1 d hd h
    generalize (d.skip 1).val 20 = x at r1 m
    generalize (d.skip 2).val 90 = y at r2 m
    generalize (d.skip 3).val 10 = z at r3 m
    generalize (d.skip 4).val 1000 = u at r4 m
    exact ⟨⟨3, 1 + x, y, z, u⟩, _, hd.skip 5, opOk_of (by omega), m⟩
  · have r1 := (hd.skip 1).val (n := 20) (by omega)
    have r2 := (hd.skip 2).val (n := 5) (by omega)
    have m := w9Op_2 d hd h
    generalize (d.skip 1).val 20 = x at r1 m
    generalize (d.skip 2).val 5 = y at r2 m
    exact ⟨⟨4, 1 + x, y, 0, 0⟩, _, hd.skip 3, opOk_of (by omega), m⟩
  · have r1 := (hd.skip 1).val (n := 40) (by omega)
    have m := w9Op_3 d hd h
    generalize (d.skip 1).val 40 = x at r1 m
    exact ⟨⟨5, 1 + x, 0, 0, 0⟩, _, hd.skip 2, opOk_of (by omega), m⟩
  · have r1 := (hd.skip 1).val (n := 10) (by omega)
    have r2 := (hd.skip 2).val (n := 1000) (by omega)
    have m := w9Op_4 d hd h
    generalize (d.skip 1).val 10 = x at r1 m
    generalize (d.skip 2).val 1000 = y at r2 m
    exact ⟨⟨1, x, y, 0, 0⟩, _, hd.skip 3, opOk_of (by omega), m⟩
theorem w9Wants_ex (d : Dc) (hd : d.ok) : ∃ (x : DWant) (d' : Dc), d'.ok ∧ wantOk x = true ∧ MCall av 56 [.one (.ref 1000 0 0 0), .one (.d (dI 1))] [(1000, d.o)] [(1000, d'.o), (6, .row 39 7 [x.ds])] [1000] (.val (.one (.own 6))) := by
  have h4 : d.val 4 = 0 ∨ d.val 4 = 1 ∨ d.val 4 = 2 ∨ d.val 4 = 3 := by have := hd.val (n := 4) (by omega); omega
  have key : ∀ {k a b c e : Int}, opOk ⟨k, a, b, c, e⟩ = true → (k = 1 ∨ k = 2 ∨ k = 3) → wantOk ⟨k, ⟨k, a, b, c, e⟩, 0⟩ = true := by
    intro k a b c e h hk
    rcases hk with rfl | rfl | rfl <;> simp [wantOk, h]
  rcases h4 with h | h | h | h
  · have r1 := (hd.skip 1).val (n := 10) (by omega)
    have m := w9Wants_0 d hd h
    generalize (d.skip 1).val 10 = x at r1 m
    refine ⟨⟨4, ⟨0, 0, 0, 0, 0⟩, x⟩, _, hd.skip 2, ?_, m⟩
    simp [wantOk, betweenB]; omega
  · have r1 := (hd.skip 1).val (n := 10) (by omega)
    have m := w9Wants_1 d hd h
    generalize (d.skip 1).val 10 = x at r1 m
    exact ⟨⟨2, ⟨2, x, 0, 0, 0⟩, 0⟩, _, hd.skip 2, key (opOk_of (by omega)) (by simp), m⟩
  · have r1 := (hd.skip 1).val (n := 9) (by omega)
    have r2 := (hd.skip 2).val (n := 50) (by omega)
    have r3 := (hd.skip 3).val (n := 10) (by omega)
    have r4 := (hd.skip 4).val (n := 90) (by omega)
    have m := w9Wants_2 d hd h
    generalize (d.skip 1).val 9 = x at r1 m
    generalize (d.skip 2).val 50 = y at r2 m
    generalize (d.skip 3).val 10 = z at r3 m
    generalize (d.skip 4).val 90 = u at r4 m
    exact ⟨⟨3, ⟨3, 1 + x, y, z, u⟩, 0⟩, _, hd.skip 5, key (opOk_of (by omega)) (by simp), m⟩
  · have r1 := (hd.skip 1).val (n := 10) (by omega)
    have r2 := (hd.skip 2).val (n := 90) (by omega)
    have m := w9Wants_3 d hd h
    generalize (d.skip 1).val 10 = x at r1 m
    generalize (d.skip 2).val 90 = y at r2 m
    exact ⟨⟨1, ⟨1, x, y, 0, 0⟩, 0⟩, _, hd.skip 3, key (opOk_of (by omega)) (by simp), m⟩
theorem AUCall.of2 {E : AEnv} {f : FuncId} {args : List AA} {o o' : AO} {res : AR} {cargs : List AV} {o0 o1 : AO} {r : AV} (hc : MCall E f args [(1000, o)] [(1000, o')] [1000] res) (id : Nat)
    (hck : methOk [(1000, id)] [(1000, o)] [(1000, o')] res = true) (hargs : (args.map fun a => (renA (mlook [(1000, id)]) a).v) = cargs) (h0 : renO (mlook [(1000, id)]) o = o0) (h1 : renO (mlook [(1000, id)]) o' = o1) (hr : aRenR [(1000, id)] res fun r' => r' = r) : AUCall E f cargs id o0 o1 r :=
  AUCall.of hc id hck hargs h0 h1 (aRenR_get hr)
end Go.Proofs.YtlhanpkfnhnegaaDoor
/- The laws' lists of entries, two drawn (gen_w9list.py). -/
namespace Go.Proofs.YtlhanpkfnhnegaaDoor
open Go.RowKit

abbrev seqs0 : List (List AD) := List.replicate 6 [dI 0]
theorem seqs_get {k : Nat} (h : k < 6) : seqs0[k]? = some [dI 0] := by rw [List.getElem?_replicate, if_pos h]
theorem seqs_same {l : List (List AD)} {k : Nat} (h : k < l.length) (x : List AD) : (l.set k x)[k]? = some x := by simp [h]
set_option maxHeartbeats 2000000 in
theorem w9List_at (d d0 d1 : Dc) (o0 o1 : DOp) (hd : d.ok) (hd0 : d0.ok) (k0 k1 : Nat) (h0 : 2 + d.val 4 = (k0 : Int)) (h1 : 2 + d0.val 4 = (k1 : Int)) (l0 : k0 < 6) (l1 : k1 < 6) (q : Int) (hq : 0 ≤ q ∧ q ≤ 2) (hy : (seqs0.set k0 [dI (0 + 1 + (d.skip 1).val 2)])[k1]? = some [dI q])
    (b3 : MCall av 110 [.one (.ref 1000 0 0 0)] [(1000, (d.skip 3).o)] [(1000, d0.o)] [1000] (.val (.agg (o0.ds.map .d))))
    (c3 : MCall av 110 [.one (.ref 1000 0 0 0)] [(1000, (d0.skip 3).o)] [(1000, d1.o)] [1000] (.val (.agg (o1.ds.map .d)))) :
    MCall av 57 [.one (.ref 1000 0 0 0), .one (.own 1001), .one (.d (dI 2))] [(1000, d.o), (1001, .row 32 9 [])] [(1000, d1.o), (1001, .row 32 9 []), (13, .row 32 9 [(⟨0 + 1, 0 + (d.skip 2).val 6, 2 + d.val 4, 0 + 1 + (d.skip 1).val 2, o0⟩ : DEntry).ds, (⟨0 + 1 + 1, 0 + (d.skip 2).val 6 + (d0.skip 2).val 6, 2 + d0.val 4, q + 1 + (d0.skip 1).val 2, o1⟩ : DEntry).ds])] [1000] (.val (.one (.own 13))) := by
  have b0 := below_m d 4 hd (by omega)
  have b1 := below_m (d.skip 1) 2 (hd.skip 1) (by omega)
  have b2 := below_m (d.skip 2) 6 (hd.skip 2) (by omega)
  have r0 := hd.val (n := 4) (by omega)
  have r1 := (hd.skip 1).val (n := 2) (by omega)
  have r2 := (hd.skip 2).val (n := 6) (by omega)
  have c0 := below_m d0 4 hd0 (by omega)
  have c1 := below_m (d0.skip 1) 2 (hd0.skip 1) (by omega)
  have c2 := below_m (d0.skip 2) 6 (hd0.skip 2) (by omega)
  have q0 := hd0.val (n := 4) (by omega)
  have q1 := (hd0.skip 1).val (n := 2) (by omega)
  have q2 := (hd0.skip 2).val (n := 6) (by omega)
  have g0 := seqs_get l0
  have g1 := seqs_same (l := seqs0) (k := k0) (by simpa [seqs0] using l0) [dI (0 + 1 + (d.skip 1).val 2)]
  have g2 := seqs_same (l := seqs0.set k0 [dI (0 + 1 + (d.skip 1).val 2)]) (k := k1) (by simpa [seqs0] using l1) [dI (q + 1 + (d0.skip 1).val 2)]
  refine mcall_of av_ok Tryd.func57 rfl Tryd.call57 Tryd.ntmps57 (congrArg Array.toList Tryd.results57) rfl fun S pv => ?_; conv => whnf
  repeat' (first | (refine AWP.seq ?_) | (refine AWP.region av_ok ?_; conv => whnf) | (refine AWP.ret ?_; conv => whnf) | (refine AWP.skip ?_; conv => whnf) | (refine AWP.exit ?_; conv => whnf) | (refine AWP.block ?_; conv => whnf) | (refine AWP.cond ?_; conv => whnf) | (refine AB.tt ?_; conv => whnf) | (refine AB.ff ?_; conv => whnf) | (refine AB.ofT (by assumption) ?_; conv => whnf) | (refine AB.ofF (by assumption) ?_; conv => whnf) | (exact trivial) | (refine And.intro rfl ?_; conv => whnf) | (refine AB.mk (fun h => ?_) (fun h => ?_) <;> (conv => whnf)) | (with_reducible_and_instances rfl) | (exact (rfl : AP.tup _ = AP.tup _)))
  refine ⟨6, rfl, rfl, Nat.le_of_ble_eq_true rfl, Nat.le_of_ble_eq_true rfl, ?_⟩
  conv => whnf
  repeat' (first | (refine AWP.seq ?_) | (refine AWP.region av_ok ?_; conv => whnf) | (refine AWP.ret ?_; conv => whnf) | (refine AWP.skip ?_; conv => whnf) | (refine AWP.exit ?_; conv => whnf) | (refine AWP.block ?_; conv => whnf) | (refine AWP.cond ?_; conv => whnf) | (refine AB.tt ?_; conv => whnf) | (refine AB.ff ?_; conv => whnf) | (refine AB.ofT (by assumption) ?_; conv => whnf) | (refine AB.ofF (by assumption) ?_; conv => whnf) | (exact trivial) | (refine And.intro rfl ?_; conv => whnf) | (refine AB.mk (fun h => ?_) (fun h => ?_) <;> (conv => whnf)) | (with_reducible_and_instances rfl) | (exact (rfl : AP.tup _ = AP.tup _)))
  refine AWP.unroll 1 ?_
  conv => whnf
  repeat' (first | (refine AWP.seq ?_) | (refine AWP.region av_ok ?_; conv => whnf) | (refine AWP.ret ?_; conv => whnf) | (refine AWP.skip ?_; conv => whnf) | (refine AWP.exit ?_; conv => whnf) | (refine AWP.block ?_; conv => whnf) | (refine AWP.cond ?_; conv => whnf) | (refine AB.tt ?_; conv => whnf) | (refine AB.ff ?_; conv => whnf) | (refine AB.ofT (by assumption) ?_; conv => whnf) | (refine AB.ofF (by assumption) ?_; conv => whnf) | (refine AB.ofF (by decide) ?_; conv => whnf) | (exact trivial) | (refine And.intro rfl ?_; conv => whnf) | (refine AB.mk (fun h => ?_) (fun h => ?_) <;> (conv => whnf)) | (with_reducible_and_instances rfl) | (exact (rfl : AP.tup _ = AP.tup _)))
  refine AWP.unroll 3 ?_
  conv => whnf
  repeat' (first | (refine AWP.seq ?_) | (refine AWP.region av_ok ?_; conv => whnf) | (refine AWP.ret ?_; conv => whnf) | (refine AWP.skip ?_; conv => whnf) | (refine AWP.exit ?_; conv => whnf) | (refine AWP.block ?_; conv => whnf) | (refine AWP.cond ?_; conv => whnf) | (refine AB.tt ?_; conv => whnf) | (refine AB.ff ?_; conv => whnf) | (refine AB.ofT (by assumption) ?_; conv => whnf) | (refine AB.ofF (by assumption) ?_; conv => whnf) | (refine ACall.upd b0 1000 rfl rfl rfl ?_; conv => whnf) | (refine AB.ofT (by decide) ?_; conv => whnf) | (refine AW.i64 (by omega) (by omega) ?_; conv => whnf) | (exact trivial) | (refine And.intro rfl ?_; conv => whnf) | (refine AB.mk (fun h => ?_) (fun h => ?_) <;> (conv => whnf)) | (with_reducible_and_instances rfl) | (exact (rfl : AP.tup _ = AP.tup _)))
  refine' AWP.drawU av_ok 10 [[], [], [], [], [3, 2], [2, 3, 4], [4, 3, 2, 5], [], [7], [7, 8, 5, 2, 3, 4, 6], [9, 8, 7, 6, 5, 4, 3, 2, 1, 0], [0, 1, 2, 3, 4, 5, 6, 7, 8, 9, 10]] [(_, _), (_, _), (_, _), (_, _), (_, _), (_, _), (_, _), (_, _), (_, _), (_, _)] 1000 8 _ (d.skip 2).o ?hD ?hok ?hl ?hget ?hic ?hf ?hno ?hno1 ?ht
  case hD => kernel_rfl
  case hok => kernel_rfl
  case hl => rfl
  case hget => rfl
  case hic => rfl
  case hf =>
    conv => whnf
    repeat' (first | (refine ⟨rfl, rfl⟩) | exact trivial | (refine AIx.at k0 _ h0 g0 ?_; conv => whnf) | (refine AIx.at k0 _ rfl g0 ?_; conv => whnf) | (refine AW.i64 (by omega) (by omega) ?_; conv => whnf) | (refine AUCall.of2 b1 1000 rfl rfl rfl rfl ?_; conv => whnf) | (refine And.intro rfl (And.intro rfl ?_); conv => whnf) | (exact rfl) | (refine And.intro ?_ ?_ <;> conv => whnf))
  case hno => rfl
  case hno1 => rfl
  case ht =>
    conv => whnf
    repeat' (first | (refine AWP.seq ?_) | (refine AWP.region av_ok ?_; conv => whnf) | (refine AWP.ret ?_; conv => whnf) | (refine AWP.skip ?_; conv => whnf) | (refine AWP.exit ?_; conv => whnf) | (refine AWP.block ?_; conv => whnf) | (refine AWP.cond ?_; conv => whnf) | (refine AB.tt ?_; conv => whnf) | (refine AB.ff ?_; conv => whnf) | (refine AB.ofT (by assumption) ?_; conv => whnf) | (refine AB.ofF (by assumption) ?_; conv => whnf) | (refine AIx.at k0 _ h0 g0 ?_; conv => whnf) | (refine AIx.at k0 _ rfl g0 ?_; conv => whnf) | (refine ACall.upd b2 1000 rfl rfl rfl ?_; conv => whnf) | (refine AW.i64 (by omega) (by omega) ?_; conv => whnf) | (exact trivial) | (refine And.intro rfl ?_; conv => whnf) | (refine AB.mk (fun h => ?_) (fun h => ?_) <;> (conv => whnf)) | (with_reducible_and_instances rfl) | (exact (rfl : AP.tup _ = AP.tup _)))
    refine' AWP.drawU av_ok 12 [[], [], [], [], [], [], [5, 4], [4, 5, 6], [], [8], [8, 9, 6, 5, 4, 7, 3, 2, 1], [1, 2, 3, 7, 4, 5, 6, 9, 8, 10], [10, 8, 9, 6, 5, 4, 7, 3, 2, 1, 11, 0], [0, 11, 1, 2, 3, 7, 4, 5, 6, 9, 8, 10, 12]] [(_, _), (_, _), (_, _), (_, _), (_, _), (_, _), (_, _), (_, _), (_, _), (_, _), (_, _), (_, _)] 1000 9 _ d0.o ?hD ?hok ?hl ?hget ?hic ?hf ?hno ?hno1 ?ht
    case hD => kernel_rfl
    case hok => kernel_rfl
    case hl => rfl
    case hget => rfl
    case hic => rfl
    case hf =>
      conv => whnf
      repeat' (first | (refine ⟨rfl, rfl⟩) | exact trivial | (refine AIx.at k0 _ h0 g1 ?_; conv => whnf) | (refine AIx.at k0 _ rfl g1 ?_; conv => whnf) | (refine AW.i64 (by omega) (by omega) ?_; conv => whnf) | (refine AUCall.of2 b3 1000 rfl rfl rfl rfl ?_; conv => whnf) | (refine And.intro rfl (And.intro rfl ?_); conv => whnf) | (exact rfl) | (refine And.intro ?_ ?_ <;> conv => whnf))
    case hno => rfl
    case hno1 => rfl
    case ht =>
      conv => whnf
      repeat' (first | (refine AWP.seq ?_) | (refine AWP.region av_ok ?_; conv => whnf) | (refine AWP.ret ?_; conv => whnf) | (refine AWP.skip ?_; conv => whnf) | (refine AWP.exit ?_; conv => whnf) | (refine AWP.block ?_; conv => whnf) | (refine AWP.cond ?_; conv => whnf) | (refine AB.tt ?_; conv => whnf) | (refine AB.ff ?_; conv => whnf) | (refine AB.ofT (by assumption) ?_; conv => whnf) | (refine AB.ofF (by assumption) ?_; conv => whnf) | (refine all_len (by simp) ?_; conv => whnf) | (refine szY (by simp) ?_; conv => whnf) | (refine ACall.upd c0 1000 rfl rfl rfl ?_; conv => whnf) | (refine AB.ofT (by decide) ?_; conv => whnf) | (refine AW.i64 (by omega) (by omega) ?_; conv => whnf) | (exact trivial) | (refine And.intro rfl ?_; conv => whnf) | (refine AB.mk (fun h => ?_) (fun h => ?_) <;> (conv => whnf)) | (with_reducible_and_instances rfl) | (exact (rfl : AP.tup _ = AP.tup _)))
      refine' AWP.drawU av_ok 10 [[], [], [], [], [3, 2], [2, 3, 4], [4, 3, 2, 5], [], [7], [7, 8, 5, 2, 3, 4, 6], [9, 8, 7, 6, 5, 4, 3, 2, 1, 0], [0, 1, 2, 3, 4, 5, 6, 7, 8, 9, 10]] [(_, _), (_, _), (_, _), (_, _), (_, _), (_, _), (_, _), (_, _), (_, _), (_, _)] 1000 8 _ (d0.skip 2).o ?hD ?hok ?hl ?hget ?hic ?hf ?hno ?hno1 ?ht
      case hD => kernel_rfl
      case hok => kernel_rfl
      case hl => rfl
      case hget => rfl
      case hic => rfl
      case hf =>
        conv => whnf
        repeat' (first | (refine ⟨rfl, rfl⟩) | exact trivial | (refine AIx.at k1 _ h1 hy ?_; conv => whnf) | (refine AIx.at k1 _ rfl hy ?_; conv => whnf) | (refine AW.i64 (by omega) (by omega) ?_; conv => whnf) | (refine AUCall.of2 c1 1000 rfl rfl rfl rfl ?_; conv => whnf) | (refine And.intro rfl (And.intro rfl ?_); conv => whnf) | (exact rfl) | (refine And.intro ?_ ?_ <;> conv => whnf))
      case hno => rfl
      case hno1 => rfl
      case ht =>
        conv => whnf
        repeat' (first | (refine AWP.seq ?_) | (refine AWP.region av_ok ?_; conv => whnf) | (refine AWP.ret ?_; conv => whnf) | (refine AWP.skip ?_; conv => whnf) | (refine AWP.exit ?_; conv => whnf) | (refine AWP.block ?_; conv => whnf) | (refine AWP.cond ?_; conv => whnf) | (refine AB.tt ?_; conv => whnf) | (refine AB.ff ?_; conv => whnf) | (refine AB.ofT (by assumption) ?_; conv => whnf) | (refine AB.ofF (by assumption) ?_; conv => whnf) | (refine AIx.at k1 _ h1 hy ?_; conv => whnf) | (refine AIx.at k1 _ rfl hy ?_; conv => whnf) | (refine ACall.upd c2 1000 rfl rfl rfl ?_; conv => whnf) | (refine AW.i64 (by omega) (by omega) ?_; conv => whnf) | (exact trivial) | (refine And.intro rfl ?_; conv => whnf) | (refine AB.mk (fun h => ?_) (fun h => ?_) <;> (conv => whnf)) | (with_reducible_and_instances rfl) | (exact (rfl : AP.tup _ = AP.tup _)))
        refine' AWP.drawU av_ok 12 [[], [], [], [], [], [], [5, 4], [4, 5, 6], [], [8], [8, 9, 6, 5, 4, 7, 3, 2, 1], [1, 2, 3, 7, 4, 5, 6, 9, 8, 10], [10, 8, 9, 6, 5, 4, 7, 3, 2, 1, 11, 0], [0, 11, 1, 2, 3, 7, 4, 5, 6, 9, 8, 10, 12]] [(_, _), (_, _), (_, _), (_, _), (_, _), (_, _), (_, _), (_, _), (_, _), (_, _), (_, _), (_, _)] 1000 9 _ d1.o ?hD ?hok ?hl ?hget ?hic ?hf ?hno ?hno1 ?ht
        case hD => kernel_rfl
        case hok => kernel_rfl
        case hl => rfl
        case hget => rfl
        case hic => rfl
        case hf =>
          conv => whnf
          repeat' (first | (refine ⟨rfl, rfl⟩) | exact trivial | (refine AIx.at k1 _ h1 g2 ?_; conv => whnf) | (refine AIx.at k1 _ rfl g2 ?_; conv => whnf) | (refine AW.i64 (by omega) (by omega) ?_; conv => whnf) | (refine AUCall.of2 c3 1000 rfl rfl rfl rfl ?_; conv => whnf) | (refine And.intro rfl (And.intro rfl ?_); conv => whnf) | (exact rfl) | (refine And.intro ?_ ?_ <;> conv => whnf))
        case hno => rfl
        case hno1 => rfl
        case ht =>
          conv => whnf
          repeat' (first | (refine AWP.seq ?_) | (refine AWP.region av_ok ?_; conv => whnf) | (refine AWP.ret ?_; conv => whnf) | (refine AWP.skip ?_; conv => whnf) | (refine AWP.exit ?_; conv => whnf) | (refine AWP.block ?_; conv => whnf) | (refine AWP.cond ?_; conv => whnf) | (refine AB.tt ?_; conv => whnf) | (refine AB.ff ?_; conv => whnf) | (refine AB.ofT (by assumption) ?_; conv => whnf) | (refine AB.ofF (by assumption) ?_; conv => whnf) | (refine all_len (by simp) ?_; conv => whnf) | (refine szY (by simp) ?_; conv => whnf) | (refine AB.ofF (by decide) ?_; conv => whnf) | (refine AW.i64 (by omega) (by omega) ?_; conv => whnf) | (exact trivial) | (refine And.intro rfl ?_; conv => whnf) | (refine AB.mk (fun h => ?_) (fun h => ?_) <;> (conv => whnf)) | (with_reducible_and_instances rfl) | (exact (rfl : AP.tup _ = AP.tup _)))
end Go.Proofs.YtlhanpkfnhnegaaDoor
/- The laws' list of two entries: both are valid. -/
namespace Go.Proofs.YtlhanpkfnhnegaaDoor
open Go.RowKit

theorem val4 (d : Dc) (hd : d.ok) : d.val 4 = 0 ∨ d.val 4 = 1 ∨ d.val 4 = 2 ∨ d.val 4 = 3 := by
  have := hd.val (n := 4) (by omega); omega
theorem entryOk_of {i t c q : Int} {o : DOp} (hi : 1 ≤ i ∧ i ≤ 2000) (ht : 0 ≤ t ∧ t ≤ 1000000) (hc : 2 ≤ c ∧ c ≤ 5) (hq : 1 ≤ q ∧ q ≤ 2000) (ho : opOk o = true) : entryOk ⟨i, t, c, q, o⟩ = true := by
  simp [entryOk, betweenB, ho]
  omega
theorem w9List_ex (d : Dc) (hd : d.ok) : ∃ (e0 e1 : DEntry) (d' : Dc), d'.ok ∧ entryOk e0 = true ∧ entryOk e1 = true ∧ MCall av 57 [.one (.ref 1000 0 0 0), .one (.own 1001), .one (.d (dI 2))] [(1000, d.o), (1001, .row 32 9 [])] [(1000, d'.o), (1001, .row 32 9 []), (13, .row 32 9 [e0.ds, e1.ds])] [1000] (.val (.one (.own 13))) := by
  obtain ⟨o0, d0, hd0, ho0, b3⟩ := w9Op_ex (d.skip 3) (hd.skip 3)
  obtain ⟨o1, d1, hd1, ho1, c3⟩ := w9Op_ex (d0.skip 3) (hd0.skip 3)
  have r0 := hd.val (n := 4) (by omega)
  have r1 := (hd.skip 1).val (n := 2) (by omega)
  have r2 := (hd.skip 2).val (n := 6) (by omega)
  have q0 := hd0.val (n := 4) (by omega)
  have q1 := (hd0.skip 1).val (n := 2) (by omega)
  have q2 := (hd0.skip 2).val (n := 6) (by omega)
  obtain ⟨k0, h0⟩ := Int.eq_ofNat_of_zero_le (show 0 ≤ 2 + d.val 4 by omega)
  obtain ⟨k1, h1⟩ := Int.eq_ofNat_of_zero_le (show 0 ≤ 2 + d0.val 4 by omega)
  have l0 : k0 < 6 := by omega
  have l1 : k1 < 6 := by omega
  obtain ⟨q, hq, hy⟩ : ∃ q : Int, (0 ≤ q ∧ q ≤ 2) ∧ (seqs0.set k0 [dI (0 + 1 + (d.skip 1).val 2)])[k1]? = some [dI q] := by
    by_cases h : k0 = k1
    · subst h
      exact ⟨_, by omega, seqs_same (by simpa [seqs0] using l0) _⟩
    · exact ⟨0, by omega, by rw [List.getElem?_set_ne h]; exact seqs_get l1⟩
  exact ⟨_, _, d1, hd1, entryOk_of (by omega) (by omega) (by omega) (by omega) ho0, entryOk_of (by omega) (by omega) (by omega) (by omega) ho1, w9List_at d d0 d1 o0 o1 hd hd0 k0 k1 h0 h1 l0 l1 q hq hy b3 c3⟩
end Go.Proofs.YtlhanpkfnhnegaaDoor
