/- Joined: Trod TrodT WTrod -/
import Derived.Test.YtmgcnmdbhahhlaaGreatJ03
import Derived.Deep.Slices
import Derived.ChangeArms
import Derived.Test.YtmgcnmdbhahhlaaGreatJ04
set_option linter.unusedVariables false
set_option linter.unusedSimpArgs false
set_option maxRecDepth 100000
namespace Go.Proofs.YtmgcnmdbhahhlaaGreat
open Go.ChangeShapes Go.WideShapes Go.RowKit Go.Deep

/-- Whatever reads as data at type t reads by R. -/
def TReads (P : Program) (t : TypeId) {α : Type} (R : Rep α) : Prop :=
  ∀ (H : Type) (enc : TypeId × Value → H) (w : World) (base : Nat) (spare : Nat → Bool) (held : Bool) (fuel : Nat) (cs : List Value) (y : DataW H × List MemPlace),
    DataW.trod enc P w base spare held fuel t cs = some y → ∃ a F, R.rd w cs a F

theorem treads_int {P : Program} {t : TypeId} {k : IntKind} (ht : P.underlying t = some (.int k)) : TReads P t (Rep.int k) := by
  intro H enc w base spare held fuel cs y h
  obtain ⟨n, rfl, _, hw⟩ := DataW.trod_int ht h
  exact ⟨n, [], rfl, hw, rfl⟩
theorem treads_bool {P : Program} {t : TypeId} (ht : P.underlying t = some .bool) : TReads P t Rep.bool := by
  intro H enc w base spare held fuel cs y h
  obtain ⟨n, rfl, _⟩ := DataW.trod_bool ht h
  exact ⟨n, [], rfl, rfl⟩
theorem treads_str {P : Program} {t : TypeId} (ht : P.underlying t = some .string) : TReads P t Rep.str := by
  intro H enc w base spare held fuel cs y h
  obtain ⟨n, rfl, _, _⟩ := DataW.trod_string ht h
  exact ⟨n, [], rfl, rfl⟩

theorem treads_sl {P : Program} {t e : TypeId} {α : Type} {R : Rep α} (ht : P.underlying t = some (.slice e)) (hc : P.cellsOf e = R.size) (hr : TReads P e R) : TReads P t (Rep.sl R) := by
  intro H enc w base spare held fuel cs y h
  rcases open_slice ht h with ⟨rfl, _⟩ | ⟨a, len, cap, m, n, D, Pl, rfl, hb, hl, hm, hmm, _, hi⟩
  · exact ⟨[], [], none, 0, [], [], rfl, Nat.le_refl _, Nat.zero_le _, fun j hj => absurd hj (Nat.not_lt_zero _), ⟨rfl, rfl⟩, rfl⟩
  · have hlm : len ≤ m := by rw [hmm]; split <;> omega
    have key : ∀ q, q ≤ len → ∃ (l : List α) (xs : List Value) (F : List Nat), l.length = q ∧ R.all w xs l F ∧ ∀ (j : Nat) (u : Value), xs[j]? = some u → w.cell? (a.add j) = some u := by
      intro q
      induction q with
      | zero => intro _; exact ⟨[], [], [], rfl, ⟨rfl, rfl⟩, by intro j u hu; simp at hu⟩
      | succ q ih =>
        intro hq
        obtain ⟨l, xs, F, hll, hall, hx⟩ := ih (by omega)
        obtain ⟨cs', h1, h2⟩ := hi q (by omega)
        obtain ⟨_, hcl, hat⟩ := World.cells?_some h1
        obtain ⟨b, F', hrd⟩ := hr H enc w base spare held n cs' _ h2
        have hxl := Rep.all_len hall
        refine ⟨l ++ [b], xs ++ cs', F ++ F', by simp [hll], Rep.all_snoc hall hrd, fun j u hu => ?_⟩
        by_cases hj : j < xs.length
        · rw [List.getElem?_append_left hj] at hu
          exact hx j u hu
        · rw [List.getElem?_append_right (by omega)] at hu
          have hjl : j - xs.length < cs'.length := (List.getElem?_eq_some_iff.1 hu).1
          have := hat (j - xs.length) (by omega)
          rw [hu, Go.Deep.add_add, hc, ← hll, ← hxl, show xs.length + (j - xs.length) = j by omega] at this
          exact this
    obtain ⟨l, xs, F, hll, hall, hx⟩ := key len (Nat.le_refl _)
    refine ⟨l, headOf (some a) xs ++ F, some a, cap, xs, F, by rw [hll], by omega, hm, ?_, hall, rfl⟩
    intro j0 hj0
    have h0 := hx 0 xs[0] (List.getElem?_eq_getElem (by omega))
    have ea : a.add 0 = a := by simp [Addr.add]
    rw [ea] at h0
    have hlt := World.block_lt_of_cell? w a h0
    have hsp : a.spot = none := by
      unfold World.cell? at h0
      split at h0
      · split at h0
        · cases h0
        · rename_i hs; simpa using hs
      · cases h0
    obtain ⟨b, off, sp⟩ := a
    simp only at hsp
    subst hsp
    refine ⟨b, off, rfl, hlt, fun i u hu => ?_⟩
    have := hx i u hu
    rwa [show (⟨b, off, none⟩ : Addr).add i = ⟨b, off + i, none⟩ by unfold Addr.add; split <;> simp_all] at this

theorem chain_one {P : Program} {H : Type} {enc : TypeId × Value → H} {w : World} {base : Nat} {spare : Nat → Bool} {held : Bool} {fuel : Nat} {cs : List Value} {f : Field} {o s : Nat} {α : Type} {R : Rep α}
    (h : TReads P f.type R) {y : Option (DataW H × List MemPlace)} (hf : DataW.trod enc P w base spare held fuel f.type ((cs.drop f.offset).take (P.cellsOf f.type)) = y) (hy : y.isSome = true) (ho : f.offset = o) (hs : P.cellsOf f.type = s) (hl : cs.length = o + s) :
    ∃ a F, R.rd w (cs.drop o) a F := by
  obtain ⟨y', rfl⟩ := Option.isSome_iff_exists.1 hy
  rw [ho, hs, List.take_of_length_le (by simp; omega)] at hf
  exact h H enc w base spare held fuel _ _ hf
theorem chain_cons {P : Program} {H : Type} {enc : TypeId × Value → H} {w : World} {base : Nat} {spare : Nat → Bool} {held : Bool} {fuel : Nat} {cs : List Value} {f : Field} {o s : Nat} {α β : Type} {R : Rep α} {S : Rep β}
    (h : TReads P f.type R) {y : Option (DataW H × List MemPlace)} (hf : DataW.trod enc P w base spare held fuel f.type ((cs.drop f.offset).take (P.cellsOf f.type)) = y) (hy : y.isSome = true) (ho : f.offset = o) (hs : P.cellsOf f.type = s)
    (hrest : ∃ b G, S.rd w (cs.drop (o + s)) b G) : ∃ a F, (Rep.pair R S).rd w (cs.drop o) a F := by
  obtain ⟨y', rfl⟩ := Option.isSome_iff_exists.1 hy
  rw [ho, hs] at hf
  obtain ⟨a, F, ha⟩ := h H enc w base spare held fuel _ _ hf
  obtain ⟨b, G, hb⟩ := hrest
  exact ⟨(a, b), F ++ G, _, _, F, G, by rw [← List.drop_drop, List.take_append_drop], rfl, ha, hb⟩
theorem some_at {α : Type} {l : List α} {n j : Nat} (h : l.length = n) (hj : j < n) : (l[j]?).isSome = true := by simp; omega

end Go.Proofs.YtmgcnmdbhahhlaaGreat
namespace Go.Proofs.YtmgcnmdbhahhlaaGreat
open Go.ChangeShapes Go.WideShapes Go.RowKit
theorem cellsLOp : Tryz.prog.cellsOf 51 = 5 := by kernel_rfl
theorem treads_LOp : TReads Tryz.prog 51 Rep.DOp := by
  intro H enc w base spare held fuel cs y h
  obtain ⟨ys, n, _, _, hl, hyl, hf⟩ := DataW.trod_struct Tryz.underlying51 h
  rw [cellsLOp] at hl
  have hk := chain_cons (o := 0) (s := 1) (treads_int Tryz.underlying2) (hf 0 _ rfl) (some_at hyl (by decide)) rfl (by kernel_rfl)
    (chain_cons (o := 1) (s := 1) (treads_int Tryz.underlying2) (hf 1 _ rfl) (some_at hyl (by decide)) rfl (by kernel_rfl)
    (chain_cons (o := 2) (s := 1) (treads_int Tryz.underlying2) (hf 2 _ rfl) (some_at hyl (by decide)) rfl (by kernel_rfl)
    (chain_cons (o := 3) (s := 1) (treads_int Tryz.underlying2) (hf 3 _ rfl) (some_at hyl (by decide)) rfl (by kernel_rfl)
    (chain_one (o := 4) (s := 1) (treads_int Tryz.underlying2) (hf 4 _ rfl) (some_at hyl (by decide)) rfl (by kernel_rfl) hl))))
  obtain ⟨⟨a0, a1, a2, a3, a4⟩, F, hk⟩ := hk
  exact ⟨⟨a0, a1, a2, a3, a4⟩, F, hk⟩
theorem cellsLEntry : Tryz.prog.cellsOf 317 = 9 := by kernel_rfl
theorem treads_LEntry : TReads Tryz.prog 317 Rep.DEntry := by
  intro H enc w base spare held fuel cs y h
  obtain ⟨ys, n, _, _, hl, hyl, hf⟩ := DataW.trod_struct Tryz.underlying317 h
  rw [cellsLEntry] at hl
  have hk := chain_cons (o := 0) (s := 1) (treads_int Tryz.underlying2) (hf 0 _ rfl) (some_at hyl (by decide)) rfl (by kernel_rfl)
    (chain_cons (o := 1) (s := 1) (treads_int Tryz.underlying2) (hf 1 _ rfl) (some_at hyl (by decide)) rfl (by kernel_rfl)
    (chain_cons (o := 2) (s := 1) (treads_int Tryz.underlying2) (hf 2 _ rfl) (some_at hyl (by decide)) rfl (by kernel_rfl)
    (chain_cons (o := 3) (s := 1) (treads_int Tryz.underlying2) (hf 3 _ rfl) (some_at hyl (by decide)) rfl (by kernel_rfl)
    (chain_one (o := 4) (s := 5) treads_LOp (hf 4 _ rfl) (some_at hyl (by decide)) rfl (by kernel_rfl) hl))))
  obtain ⟨⟨a0, a1, a2, a3, a4⟩, F, hk⟩ := hk
  exact ⟨⟨a0, a1, a2, a3, a4⟩, F, hk⟩
theorem cellsLWant : Tryz.prog.cellsOf 273 = 7 := by kernel_rfl
theorem treads_LWant : TReads Tryz.prog 273 Rep.DWant := by
  intro H enc w base spare held fuel cs y h
  obtain ⟨ys, n, _, _, hl, hyl, hf⟩ := DataW.trod_struct Tryz.underlying273 h
  rw [cellsLWant] at hl
  have hk := chain_cons (o := 0) (s := 1) (treads_int Tryz.underlying2) (hf 0 _ rfl) (some_at hyl (by decide)) rfl (by kernel_rfl)
    (chain_cons (o := 1) (s := 5) treads_LOp (hf 1 _ rfl) (some_at hyl (by decide)) rfl (by kernel_rfl)
    (chain_one (o := 6) (s := 1) (treads_int Tryz.underlying2) (hf 2 _ rfl) (some_at hyl (by decide)) rfl (by kernel_rfl) hl))
  obtain ⟨⟨a0, a1, a2⟩, F, hk⟩ := hk
  exact ⟨⟨a0, a1, a2⟩, F, hk⟩
end Go.Proofs.YtmgcnmdbhahhlaaGreat
namespace Go.Proofs.YtmgcnmdbhahhlaaGreat
open Go.ChangeShapes Go.WideShapes Go.RowKit
theorem cellsLWrite : Tryz.prog.cellsOf 304 = 2 := by kernel_rfl
theorem treads_LWrite : TReads Tryz.prog 304 Rep.DWrite := by
  intro H enc w base spare held fuel cs y h
  obtain ⟨ys, n, _, _, hl, hyl, hf⟩ := DataW.trod_struct Tryz.underlying304 h
  rw [cellsLWrite] at hl
  have hk :=
    chain_cons (o := 0) (s := 1) (treads_int Tryz.underlying2) (hf 0 _ rfl) (some_at hyl (by decide)) rfl (by kernel_rfl)
    (chain_one (o := 1) (s := 1) (treads_sl Tryz.underlying62 (by kernel_rfl) (treads_int Tryz.underlying2)) (hf 1 _ rfl) (some_at hyl (by decide)) rfl (by kernel_rfl) hl)
  obtain ⟨⟨a0, a1⟩, F, hk⟩ := hk
  exact ⟨⟨a0, a1⟩, F, hk⟩
theorem cellsLDisk : Tryz.prog.cellsOf 25 = 2 := by kernel_rfl
theorem treads_LDisk : TReads Tryz.prog 25 Rep.DDisk := by
  intro H enc w base spare held fuel cs y h
  obtain ⟨ys, n, _, _, hl, hyl, hf⟩ := DataW.trod_struct Tryz.underlying25 h
  rw [cellsLDisk] at hl
  have hk :=
    chain_cons (o := 0) (s := 1) (treads_sl Tryz.underlying22 (by kernel_rfl) (treads_sl Tryz.underlying62 (by kernel_rfl) (treads_int Tryz.underlying2))) (hf 0 _ rfl) (some_at hyl (by decide)) rfl (by kernel_rfl)
    (chain_one (o := 1) (s := 1) (treads_sl Tryz.underlying23 (by kernel_rfl) treads_LWrite) (hf 1 _ rfl) (some_at hyl (by decide)) rfl (by kernel_rfl) hl)
  obtain ⟨⟨a0, a1⟩, F, hk⟩ := hk
  exact ⟨⟨a0, a1⟩, F, hk⟩
theorem cellsLTwo : Tryz.prog.cellsOf 27 = 4 := by kernel_rfl
theorem treads_LTwo : TReads Tryz.prog 27 Rep.DTwo := by
  intro H enc w base spare held fuel cs y h
  obtain ⟨ys, n, _, _, hl, hyl, hf⟩ := DataW.trod_struct Tryz.underlying27 h
  rw [cellsLTwo] at hl
  have hk :=
    chain_cons (o := 0) (s := 2) treads_LDisk (hf 0 _ rfl) (some_at hyl (by decide)) rfl (by kernel_rfl)
    (chain_one (o := 2) (s := 2) treads_LDisk (hf 1 _ rfl) (some_at hyl (by decide)) rfl (by kernel_rfl) hl)
  obtain ⟨⟨a0, a1⟩, F, hk⟩ := hk
  exact ⟨⟨a0, a1⟩, F, hk⟩
theorem cellsLMark : Tryz.prog.cellsOf 260 = 3 := by kernel_rfl
theorem treads_LMark : TReads Tryz.prog 260 Rep.DMark := by
  intro H enc w base spare held fuel cs y h
  obtain ⟨ys, n, _, _, hl, hyl, hf⟩ := DataW.trod_struct Tryz.underlying260 h
  rw [cellsLMark] at hl
  have hk :=
    chain_cons (o := 0) (s := 1) (treads_int Tryz.underlying2) (hf 0 _ rfl) (some_at hyl (by decide)) rfl (by kernel_rfl)
    (chain_cons (o := 1) (s := 1) (treads_int Tryz.underlying2) (hf 1 _ rfl) (some_at hyl (by decide)) rfl (by kernel_rfl)
    (chain_one (o := 2) (s := 1) (treads_int Tryz.underlying2) (hf 2 _ rfl) (some_at hyl (by decide)) rfl (by kernel_rfl) hl))
  obtain ⟨⟨a0, a1, a2⟩, F, hk⟩ := hk
  exact ⟨⟨a0, a1, a2⟩, F, hk⟩
theorem cellsLHead : Tryz.prog.cellsOf 30 = 4 := by kernel_rfl
theorem treads_LHead : TReads Tryz.prog 30 Rep.DHead := by
  intro H enc w base spare held fuel cs y h
  obtain ⟨ys, n, _, _, hl, hyl, hf⟩ := DataW.trod_struct Tryz.underlying30 h
  rw [cellsLHead] at hl
  have hk :=
    chain_cons (o := 0) (s := 1) (treads_int Tryz.underlying2) (hf 0 _ rfl) (some_at hyl (by decide)) rfl (by kernel_rfl)
    (chain_cons (o := 1) (s := 1) (treads_int Tryz.underlying2) (hf 1 _ rfl) (some_at hyl (by decide)) rfl (by kernel_rfl)
    (chain_cons (o := 2) (s := 1) (treads_int Tryz.underlying2) (hf 2 _ rfl) (some_at hyl (by decide)) rfl (by kernel_rfl)
    (chain_one (o := 3) (s := 1) (treads_sl Tryz.underlying28 (by kernel_rfl) treads_LMark) (hf 3 _ rfl) (some_at hyl (by decide)) rfl (by kernel_rfl) hl)))
  obtain ⟨⟨a0, a1, a2, a3⟩, F, hk⟩ := hk
  exact ⟨⟨a0, a1, a2, a3⟩, F, hk⟩
theorem cellsLBook : Tryz.prog.cellsOf 33 = 3 := by kernel_rfl
theorem treads_LBook : TReads Tryz.prog 33 Rep.DBook := by
  intro H enc w base spare held fuel cs y h
  obtain ⟨ys, n, _, _, hl, hyl, hf⟩ := DataW.trod_struct Tryz.underlying33 h
  rw [cellsLBook] at hl
  have hk :=
    chain_cons (o := 0) (s := 1) (treads_int Tryz.underlying2) (hf 0 _ rfl) (some_at hyl (by decide)) rfl (by kernel_rfl)
    (chain_cons (o := 1) (s := 1) (treads_int Tryz.underlying2) (hf 1 _ rfl) (some_at hyl (by decide)) rfl (by kernel_rfl)
    (chain_one (o := 2) (s := 1) (treads_sl Tryz.underlying31 (by kernel_rfl) treads_LEntry) (hf 2 _ rfl) (some_at hyl (by decide)) rfl (by kernel_rfl) hl))
  obtain ⟨⟨a0, a1, a2⟩, F, hk⟩ := hk
  exact ⟨⟨a0, a1, a2⟩, F, hk⟩
theorem cellsLAck : Tryz.prog.cellsOf 264 = 4 := by kernel_rfl
theorem treads_LAck : TReads Tryz.prog 264 Rep.DAck := by
  intro H enc w base spare held fuel cs y h
  obtain ⟨ys, n, _, _, hl, hyl, hf⟩ := DataW.trod_struct Tryz.underlying264 h
  rw [cellsLAck] at hl
  have hk :=
    chain_cons (o := 0) (s := 1) (treads_int Tryz.underlying2) (hf 0 _ rfl) (some_at hyl (by decide)) rfl (by kernel_rfl)
    (chain_cons (o := 1) (s := 1) (treads_int Tryz.underlying2) (hf 1 _ rfl) (some_at hyl (by decide)) rfl (by kernel_rfl)
    (chain_cons (o := 2) (s := 1) (treads_int Tryz.underlying2) (hf 2 _ rfl) (some_at hyl (by decide)) rfl (by kernel_rfl)
    (chain_one (o := 3) (s := 1) (treads_int Tryz.underlying2) (hf 3 _ rfl) (some_at hyl (by decide)) rfl (by kernel_rfl) hl)))
  obtain ⟨⟨a0, a1, a2, a3⟩, F, hk⟩ := hk
  exact ⟨⟨a0, a1, a2, a3⟩, F, hk⟩
theorem cellsLLogNode : Tryz.prog.cellsOf 36 = 19 := by kernel_rfl
theorem treads_LLogNode : TReads Tryz.prog 36 Rep.DLogNode := by
  intro H enc w base spare held fuel cs y h
  obtain ⟨ys, n, _, _, hl, hyl, hf⟩ := DataW.trod_struct Tryz.underlying36 h
  rw [cellsLLogNode] at hl
  have hk :=
    chain_cons (o := 0) (s := 4) treads_LTwo (hf 0 _ rfl) (some_at hyl (by decide)) rfl (by kernel_rfl)
    (chain_cons (o := 4) (s := 4) treads_LHead (hf 1 _ rfl) (some_at hyl (by decide)) rfl (by kernel_rfl)
    (chain_cons (o := 8) (s := 4) treads_LHead (hf 2 _ rfl) (some_at hyl (by decide)) rfl (by kernel_rfl)
    (chain_cons (o := 12) (s := 1) (treads_bool Tryz.underlying4) (hf 3 _ rfl) (some_at hyl (by decide)) rfl (by kernel_rfl)
    (chain_cons (o := 13) (s := 3) treads_LBook (hf 4 _ rfl) (some_at hyl (by decide)) rfl (by kernel_rfl)
    (chain_cons (o := 16) (s := 1) (treads_sl Tryz.underlying28 (by kernel_rfl) treads_LMark) (hf 5 _ rfl) (some_at hyl (by decide)) rfl (by kernel_rfl)
    (chain_cons (o := 17) (s := 1) (treads_int Tryz.underlying2) (hf 6 _ rfl) (some_at hyl (by decide)) rfl (by kernel_rfl)
    (chain_one (o := 18) (s := 1) (treads_sl Tryz.underlying34 (by kernel_rfl) treads_LAck) (hf 7 _ rfl) (some_at hyl (by decide)) rfl (by kernel_rfl) hl)))))))
  obtain ⟨⟨a0, a1, a2, a3, a4, a5, a6, a7⟩, F, hk⟩ := hk
  exact ⟨⟨a0, a1, a2, a3, a4, a5, a6, a7⟩, F, hk⟩
theorem cellsLPair : Tryz.prog.cellsOf 323 = 2 := by kernel_rfl
theorem treads_LPair : TReads Tryz.prog 323 Rep.DPair := by
  intro H enc w base spare held fuel cs y h
  obtain ⟨ys, n, _, _, hl, hyl, hf⟩ := DataW.trod_struct Tryz.underlying323 h
  rw [cellsLPair] at hl
  have hk :=
    chain_cons (o := 0) (s := 1) (treads_int Tryz.underlying2) (hf 0 _ rfl) (some_at hyl (by decide)) rfl (by kernel_rfl)
    (chain_one (o := 1) (s := 1) (treads_int Tryz.underlying2) (hf 1 _ rfl) (some_at hyl (by decide)) rfl (by kernel_rfl) hl)
  obtain ⟨⟨a0, a1⟩, F, hk⟩ := hk
  exact ⟨⟨a0, a1⟩, F, hk⟩
theorem cellsLJob : Tryz.prog.cellsOf 325 = 5 := by kernel_rfl
theorem treads_LJob : TReads Tryz.prog 325 Rep.DJob := by
  intro H enc w base spare held fuel cs y h
  obtain ⟨ys, n, _, _, hl, hyl, hf⟩ := DataW.trod_struct Tryz.underlying325 h
  rw [cellsLJob] at hl
  have hk :=
    chain_cons (o := 0) (s := 1) (treads_int Tryz.underlying2) (hf 0 _ rfl) (some_at hyl (by decide)) rfl (by kernel_rfl)
    (chain_cons (o := 1) (s := 1) (treads_int Tryz.underlying2) (hf 1 _ rfl) (some_at hyl (by decide)) rfl (by kernel_rfl)
    (chain_cons (o := 2) (s := 1) (treads_int Tryz.underlying2) (hf 2 _ rfl) (some_at hyl (by decide)) rfl (by kernel_rfl)
    (chain_cons (o := 3) (s := 1) (treads_int Tryz.underlying2) (hf 3 _ rfl) (some_at hyl (by decide)) rfl (by kernel_rfl)
    (chain_one (o := 4) (s := 1) (treads_int Tryz.underlying2) (hf 4 _ rfl) (some_at hyl (by decide)) rfl (by kernel_rfl) hl))))
  obtain ⟨⟨a0, a1, a2, a3, a4⟩, F, hk⟩ := hk
  exact ⟨⟨a0, a1, a2, a3, a4⟩, F, hk⟩
theorem cellsLLease : Tryz.prog.cellsOf 40 = 3 := by kernel_rfl
theorem treads_LLease : TReads Tryz.prog 40 Rep.DLease := by
  intro H enc w base spare held fuel cs y h
  obtain ⟨ys, n, _, _, hl, hyl, hf⟩ := DataW.trod_struct Tryz.underlying40 h
  rw [cellsLLease] at hl
  have hk :=
    chain_cons (o := 0) (s := 1) (treads_int Tryz.underlying2) (hf 0 _ rfl) (some_at hyl (by decide)) rfl (by kernel_rfl)
    (chain_cons (o := 1) (s := 1) (treads_int Tryz.underlying2) (hf 1 _ rfl) (some_at hyl (by decide)) rfl (by kernel_rfl)
    (chain_one (o := 2) (s := 1) (treads_int Tryz.underlying2) (hf 2 _ rfl) (some_at hyl (by decide)) rfl (by kernel_rfl) hl))
  obtain ⟨⟨a0, a1, a2⟩, F, hk⟩ := hk
  exact ⟨⟨a0, a1, a2⟩, F, hk⟩
theorem cellsLState : Tryz.prog.cellsOf 42 = 7 := by kernel_rfl
theorem treads_LState : TReads Tryz.prog 42 Rep.DState := by
  intro H enc w base spare held fuel cs y h
  obtain ⟨ys, n, _, _, hl, hyl, hf⟩ := DataW.trod_struct Tryz.underlying42 h
  rw [cellsLState] at hl
  have hk :=
    chain_cons (o := 0) (s := 1) (treads_int Tryz.underlying2) (hf 0 _ rfl) (some_at hyl (by decide)) rfl (by kernel_rfl)
    (chain_cons (o := 1) (s := 1) (treads_int Tryz.underlying2) (hf 1 _ rfl) (some_at hyl (by decide)) rfl (by kernel_rfl)
    (chain_cons (o := 2) (s := 1) (treads_sl Tryz.underlying37 (by kernel_rfl) treads_LPair) (hf 2 _ rfl) (some_at hyl (by decide)) rfl (by kernel_rfl)
    (chain_cons (o := 3) (s := 1) (treads_sl Tryz.underlying38 (by kernel_rfl) treads_LJob) (hf 3 _ rfl) (some_at hyl (by decide)) rfl (by kernel_rfl)
    (chain_one (o := 4) (s := 3) treads_LLease (hf 4 _ rfl) (some_at hyl (by decide)) rfl (by kernel_rfl) hl))))
  obtain ⟨⟨a0, a1, a2, a3, a4⟩, F, hk⟩ := hk
  exact ⟨⟨a0, a1, a2, a3, a4⟩, F, hk⟩
theorem cellsLStore : Tryz.prog.cellsOf 44 = 12 := by kernel_rfl
theorem treads_LStore : TReads Tryz.prog 44 Rep.DStore := by
  intro H enc w base spare held fuel cs y h
  obtain ⟨ys, n, _, _, hl, hyl, hf⟩ := DataW.trod_struct Tryz.underlying44 h
  rw [cellsLStore] at hl
  have hk :=
    chain_cons (o := 0) (s := 2) treads_LDisk (hf 0 _ rfl) (some_at hyl (by decide)) rfl (by kernel_rfl)
    (chain_cons (o := 2) (s := 7) treads_LState (hf 1 _ rfl) (some_at hyl (by decide)) rfl (by kernel_rfl)
    (chain_cons (o := 9) (s := 1) (treads_int Tryz.underlying2) (hf 2 _ rfl) (some_at hyl (by decide)) rfl (by kernel_rfl)
    (chain_cons (o := 10) (s := 1) (treads_int Tryz.underlying2) (hf 3 _ rfl) (some_at hyl (by decide)) rfl (by kernel_rfl)
    (chain_one (o := 11) (s := 1) (treads_int Tryz.underlying2) (hf 4 _ rfl) (some_at hyl (by decide)) rfl (by kernel_rfl) hl))))
  obtain ⟨⟨a0, a1, a2, a3, a4⟩, F, hk⟩ := hk
  exact ⟨⟨a0, a1, a2, a3, a4⟩, F, hk⟩
theorem cellsLDue : Tryz.prog.cellsOf 354 = 2 := by kernel_rfl
theorem treads_LDue : TReads Tryz.prog 354 Rep.DDue := by
  intro H enc w base spare held fuel cs y h
  obtain ⟨ys, n, _, _, hl, hyl, hf⟩ := DataW.trod_struct Tryz.underlying354 h
  rw [cellsLDue] at hl
  have hk :=
    chain_cons (o := 0) (s := 1) (treads_int Tryz.underlying2) (hf 0 _ rfl) (some_at hyl (by decide)) rfl (by kernel_rfl)
    (chain_one (o := 1) (s := 1) (treads_int Tryz.underlying2) (hf 1 _ rfl) (some_at hyl (by decide)) rfl (by kernel_rfl) hl)
  obtain ⟨⟨a0, a1⟩, F, hk⟩ := hk
  exact ⟨⟨a0, a1⟩, F, hk⟩
theorem cellsLJobs : Tryz.prog.cellsOf 47 = 6 := by kernel_rfl
theorem treads_LJobs : TReads Tryz.prog 47 Rep.DJobs := by
  intro H enc w base spare held fuel cs y h
  obtain ⟨ys, n, _, _, hl, hyl, hf⟩ := DataW.trod_struct Tryz.underlying47 h
  rw [cellsLJobs] at hl
  have hk :=
    chain_cons (o := 0) (s := 1) (treads_int Tryz.underlying2) (hf 0 _ rfl) (some_at hyl (by decide)) rfl (by kernel_rfl)
    (chain_cons (o := 1) (s := 1) (treads_int Tryz.underlying2) (hf 1 _ rfl) (some_at hyl (by decide)) rfl (by kernel_rfl)
    (chain_cons (o := 2) (s := 1) (treads_int Tryz.underlying2) (hf 2 _ rfl) (some_at hyl (by decide)) rfl (by kernel_rfl)
    (chain_cons (o := 3) (s := 1) (treads_int Tryz.underlying2) (hf 3 _ rfl) (some_at hyl (by decide)) rfl (by kernel_rfl)
    (chain_cons (o := 4) (s := 1) (treads_int Tryz.underlying2) (hf 4 _ rfl) (some_at hyl (by decide)) rfl (by kernel_rfl)
    (chain_one (o := 5) (s := 1) (treads_sl Tryz.underlying45 (by kernel_rfl) treads_LDue) (hf 5 _ rfl) (some_at hyl (by decide)) rfl (by kernel_rfl) hl)))))
  obtain ⟨⟨a0, a1, a2, a3, a4, a5⟩, F, hk⟩ := hk
  exact ⟨⟨a0, a1, a2, a3, a4, a5⟩, F, hk⟩
theorem cellsLView : Tryz.prog.cellsOf 49 = 6 := by kernel_rfl
theorem treads_LView : TReads Tryz.prog 49 Rep.DView := by
  intro H enc w base spare held fuel cs y h
  obtain ⟨ys, n, _, _, hl, hyl, hf⟩ := DataW.trod_struct Tryz.underlying49 h
  rw [cellsLView] at hl
  have hk :=
    chain_one (o := 0) (s := 6) treads_LJobs (hf 0 _ rfl) (some_at hyl (by decide)) rfl (by kernel_rfl) hl
  obtain ⟨a0, F, hk⟩ := hk
  exact ⟨⟨a0⟩, F, hk⟩
theorem cellsLSched : Tryz.prog.cellsOf 53 = 15 := by kernel_rfl
theorem treads_LSched : TReads Tryz.prog 53 Rep.DSched := by
  intro H enc w base spare held fuel cs y h
  obtain ⟨ys, n, _, _, hl, hyl, hf⟩ := DataW.trod_struct Tryz.underlying53 h
  rw [cellsLSched] at hl
  have hk :=
    chain_cons (o := 0) (s := 1) (treads_int Tryz.underlying2) (hf 0 _ rfl) (some_at hyl (by decide)) rfl (by kernel_rfl)
    (chain_cons (o := 1) (s := 1) (treads_int Tryz.underlying2) (hf 1 _ rfl) (some_at hyl (by decide)) rfl (by kernel_rfl)
    (chain_cons (o := 2) (s := 6) treads_LView (hf 2 _ rfl) (some_at hyl (by decide)) rfl (by kernel_rfl)
    (chain_cons (o := 8) (s := 1) (treads_bool Tryz.underlying4) (hf 3 _ rfl) (some_at hyl (by decide)) rfl (by kernel_rfl)
    (chain_cons (o := 9) (s := 5) treads_LOp (hf 4 _ rfl) (some_at hyl (by decide)) rfl (by kernel_rfl)
    (chain_one (o := 14) (s := 1) (treads_int Tryz.underlying2) (hf 5 _ rfl) (some_at hyl (by decide)) rfl (by kernel_rfl) hl)))))
  obtain ⟨⟨a0, a1, a2, a3, a4, a5⟩, F, hk⟩ := hk
  exact ⟨⟨a0, a1, a2, a3, a4, a5⟩, F, hk⟩
theorem cellsLGot : Tryz.prog.cellsOf 275 = 4 := by kernel_rfl
theorem treads_LGot : TReads Tryz.prog 275 Rep.DGot := by
  intro H enc w base spare held fuel cs y h
  obtain ⟨ys, n, _, _, hl, hyl, hf⟩ := DataW.trod_struct Tryz.underlying275 h
  rw [cellsLGot] at hl
  have hk :=
    chain_cons (o := 0) (s := 1) (treads_int Tryz.underlying2) (hf 0 _ rfl) (some_at hyl (by decide)) rfl (by kernel_rfl)
    (chain_cons (o := 1) (s := 1) (treads_int Tryz.underlying2) (hf 1 _ rfl) (some_at hyl (by decide)) rfl (by kernel_rfl)
    (chain_cons (o := 2) (s := 1) (treads_int Tryz.underlying2) (hf 2 _ rfl) (some_at hyl (by decide)) rfl (by kernel_rfl)
    (chain_one (o := 3) (s := 1) (treads_int Tryz.underlying2) (hf 3 _ rfl) (some_at hyl (by decide)) rfl (by kernel_rfl) hl)))
  obtain ⟨⟨a0, a1, a2, a3⟩, F, hk⟩ := hk
  exact ⟨⟨a0, a1, a2, a3⟩, F, hk⟩
theorem cellsLClient : Tryz.prog.cellsOf 57 = 4 := by kernel_rfl
theorem treads_LClient : TReads Tryz.prog 57 Rep.DClient := by
  intro H enc w base spare held fuel cs y h
  obtain ⟨ys, n, _, _, hl, hyl, hf⟩ := DataW.trod_struct Tryz.underlying57 h
  rw [cellsLClient] at hl
  have hk :=
    chain_cons (o := 0) (s := 1) (treads_int Tryz.underlying2) (hf 0 _ rfl) (some_at hyl (by decide)) rfl (by kernel_rfl)
    (chain_cons (o := 1) (s := 1) (treads_sl Tryz.underlying54 (by kernel_rfl) treads_LWant) (hf 1 _ rfl) (some_at hyl (by decide)) rfl (by kernel_rfl)
    (chain_cons (o := 2) (s := 1) (treads_sl Tryz.underlying55 (by kernel_rfl) treads_LGot) (hf 2 _ rfl) (some_at hyl (by decide)) rfl (by kernel_rfl)
    (chain_one (o := 3) (s := 1) (treads_int Tryz.underlying2) (hf 3 _ rfl) (some_at hyl (by decide)) rfl (by kernel_rfl) hl)))
  obtain ⟨⟨a0, a1, a2, a3⟩, F, hk⟩ := hk
  exact ⟨⟨a0, a1, a2, a3⟩, F, hk⟩
theorem cellsLMsg : Tryz.prog.cellsOf 242 = 3 := by kernel_rfl
theorem treads_LMsg : TReads Tryz.prog 242 Rep.DMsg := by
  intro H enc w base spare held fuel cs y h
  obtain ⟨ys, n, _, _, hl, hyl, hf⟩ := DataW.trod_struct Tryz.underlying242 h
  rw [cellsLMsg] at hl
  have hk :=
    chain_cons (o := 0) (s := 1) (treads_int Tryz.underlying2) (hf 0 _ rfl) (some_at hyl (by decide)) rfl (by kernel_rfl)
    (chain_cons (o := 1) (s := 1) (treads_int Tryz.underlying2) (hf 1 _ rfl) (some_at hyl (by decide)) rfl (by kernel_rfl)
    (chain_one (o := 2) (s := 1) (treads_sl Tryz.underlying62 (by kernel_rfl) (treads_int Tryz.underlying2)) (hf 2 _ rfl) (some_at hyl (by decide)) rfl (by kernel_rfl) hl))
  obtain ⟨⟨a0, a1, a2⟩, F, hk⟩ := hk
  exact ⟨⟨a0, a1, a2⟩, F, hk⟩
theorem cellsLLink : Tryz.prog.cellsOf 278 = 2 := by kernel_rfl
theorem treads_LLink : TReads Tryz.prog 278 Rep.DLink := by
  intro H enc w base spare held fuel cs y h
  obtain ⟨ys, n, _, _, hl, hyl, hf⟩ := DataW.trod_struct Tryz.underlying278 h
  rw [cellsLLink] at hl
  have hk :=
    chain_cons (o := 0) (s := 1) (treads_int Tryz.underlying2) (hf 0 _ rfl) (some_at hyl (by decide)) rfl (by kernel_rfl)
    (chain_one (o := 1) (s := 1) (treads_int Tryz.underlying2) (hf 1 _ rfl) (some_at hyl (by decide)) rfl (by kernel_rfl) hl)
  obtain ⟨⟨a0, a1⟩, F, hk⟩ := hk
  exact ⟨⟨a0, a1⟩, F, hk⟩
theorem cellsLNet : Tryz.prog.cellsOf 61 = 2 := by kernel_rfl
theorem treads_LNet : TReads Tryz.prog 61 Rep.DNet := by
  intro H enc w base spare held fuel cs y h
  obtain ⟨ys, n, _, _, hl, hyl, hf⟩ := DataW.trod_struct Tryz.underlying61 h
  rw [cellsLNet] at hl
  have hk :=
    chain_cons (o := 0) (s := 1) (treads_sl Tryz.underlying58 (by kernel_rfl) treads_LMsg) (hf 0 _ rfl) (some_at hyl (by decide)) rfl (by kernel_rfl)
    (chain_one (o := 1) (s := 1) (treads_sl Tryz.underlying59 (by kernel_rfl) treads_LLink) (hf 1 _ rfl) (some_at hyl (by decide)) rfl (by kernel_rfl) hl)
  obtain ⟨⟨a0, a1⟩, F, hk⟩ := hk
  exact ⟨⟨a0, a1⟩, F, hk⟩
theorem cellsLWorld : Tryz.prog.cellsOf 65 = 73 := by kernel_rfl
theorem treads_LWorld : TReads Tryz.prog 65 Rep.DWorld := by
  intro H enc w base spare held fuel cs y h
  obtain ⟨ys, n, _, _, hl, hyl, hf⟩ := DataW.trod_struct Tryz.underlying65 h
  rw [cellsLWorld] at hl
  have hk :=
    chain_cons (o := 0) (s := 19) treads_LLogNode (hf 0 _ rfl) (some_at hyl (by decide)) rfl (by kernel_rfl)
    (chain_cons (o := 19) (s := 12) treads_LStore (hf 1 _ rfl) (some_at hyl (by decide)) rfl (by kernel_rfl)
    (chain_cons (o := 31) (s := 15) treads_LSched (hf 2 _ rfl) (some_at hyl (by decide)) rfl (by kernel_rfl)
    (chain_cons (o := 46) (s := 15) treads_LSched (hf 3 _ rfl) (some_at hyl (by decide)) rfl (by kernel_rfl)
    (chain_cons (o := 61) (s := 4) treads_LClient (hf 4 _ rfl) (some_at hyl (by decide)) rfl (by kernel_rfl)
    (chain_cons (o := 65) (s := 4) treads_LClient (hf 5 _ rfl) (some_at hyl (by decide)) rfl (by kernel_rfl)
    (chain_cons (o := 69) (s := 2) treads_LNet (hf 6 _ rfl) (some_at hyl (by decide)) rfl (by kernel_rfl)
    (chain_cons (o := 71) (s := 1) (treads_sl Tryz.underlying62 (by kernel_rfl) (treads_int Tryz.underlying2)) (hf 7 _ rfl) (some_at hyl (by decide)) rfl (by kernel_rfl)
    (chain_one (o := 72) (s := 1) (treads_sl Tryz.underlying63 (by kernel_rfl) (treads_bool Tryz.underlying4)) (hf 8 _ rfl) (some_at hyl (by decide)) rfl (by kernel_rfl) hl))))))))
  obtain ⟨⟨a0, a1, a2, a3, a4, a5, a6, a7, a8⟩, F, hk⟩ := hk
  exact ⟨⟨a0, a1, a2, a3, a4, a5, a6, a7, a8⟩, F, hk⟩
end Go.Proofs.YtmgcnmdbhahhlaaGreat
