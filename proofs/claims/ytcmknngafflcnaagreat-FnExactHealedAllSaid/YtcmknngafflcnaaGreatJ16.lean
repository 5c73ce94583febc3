/- J16 -/
import Derived.Test.YtcmknngafflcnaaGreatJ03
import Derived.Deep.Slices
import Derived.ChangeArms
import Derived.Test.YtcmknngafflcnaaGreatJ04
set_option linter.unusedVariables false
set_option linter.unusedSimpArgs false
set_option maxRecDepth 100000
namespace Go.Proofs.YtcmknngafflcnaaGreat
open Go.ChangeShapes Go.WideShapes Go.RowKit Go.Deep
def bZ (P : Program) (t : TypeId) {α : Type} (R : Rep α) : Prop :=
 ∀ (H : Type) (enc : TypeId × Value → H) (w : World) (base : Nat) (spare : Nat → Bool) (held : Bool) (fuel : Nat) (cs : List Value) (y : DataW H × List MemPlace),
  DataW.trod enc P w base spare held fuel t cs = some y → ∃ a F, R.rd w cs a F
theorem ax {P : Program} {t : TypeId} {k : IntKind} (ht : P.underlying t = some (.int k)) : bZ P t (Rep.int k) := by
 intro H enc w base spare held fuel cs y h
 obtain ⟨n, rfl, _, hw⟩ := DataW.trod_int ht h
 exact ⟨n, [], rfl, hw, rfl⟩
theorem om {P : Program} {t : TypeId} (ht : P.underlying t = some .bool) : bZ P t Rep.bool := by
 intro H enc w base spare held fuel cs y h
 obtain ⟨n, rfl, _⟩ := DataW.trod_bool ht h
 exact ⟨n, [], rfl, rfl⟩
theorem bY {P : Program} {t e : TypeId} {α : Type} {R : Rep α} (ht : P.underlying t = some (.slice e)) (hc : P.cellsOf e = R.size) (hr : bZ P e R) : bZ P t (Rep.sl R) := by
 intro H enc w base spare held fuel cs y h
 rcases open_slice ht h with ⟨rfl, _⟩ | ⟨a, len, cap, m, n, D, Pl, rfl, hb, hl, hm, hmm, _, hi⟩
 ·exact ⟨[], [], none, 0, [], [], rfl, Nat.le_refl _, Nat.zero_le _, fun j hj => absurd hj (Nat.not_lt_zero _), ⟨rfl, rfl⟩, rfl⟩
 ·have hlm : len ≤ m := by rw [hmm]; split <;> omega
  have key : ∀ q, q ≤ len → ∃ (l : List α) (xs : List Value) (F : List Nat), l.length = q ∧ R.all w xs l F ∧ ∀ (j : Nat) (u : Value), xs[j]? = some u → w.cell? (a.add j) = some u := by
   intro q
   induction q with
   | zero => intro _; exact ⟨[], [], [], rfl, ⟨rfl, rfl⟩, by intro j u hu; simp at hu⟩
   | succ q ih =>
    intro hq
    obtain ⟨l, xs, F, hll, hall, hx⟩ := ih (by omega)
    obtain ⟨cs', h1, h2⟩ := hi q (by omega)
    obtain ⟨_, hcl, hat⟩ := World.cells?_some h1
    obtain ⟨b, F', hrd⟩ := hr H enc w base spare held n cs' _ h2
    have hxl := Rep.all_len hall
    refine ⟨l ++ [b], xs ++ cs', F ++ F', by simp [hll], Rep.all_snoc hall hrd, fun j u hu => ?_⟩
    by_cases hj : j < xs.length
    ·rw [List.getElem?_append_left hj] at hu
     exact hx j u hu
    ·rw [List.getElem?_append_right (by omega)] at hu
     have hjl : j - xs.length < cs'.length := (List.getElem?_eq_some_iff.1 hu).1
     have := hat (j - xs.length) (by omega)
     rw [hu, Go.Deep.add_add, hc, ← hll, ← hxl, show xs.length + (j - xs.length) = j by omega] at this
     exact this
  obtain ⟨l, xs, F, hll, hall, hx⟩ := key len (Nat.le_refl _)
  refine ⟨l, p3 (some a) xs ++ F, some a, cap, xs, F, by rw [hll], by omega, hm, ?_, hall, rfl⟩
  intro j0 hj0
  have h0 := hx 0 xs[0] (List.getElem?_eq_getElem (by omega))
  have ea : a.add 0 = a := by simp [Addr.add]
  rw [ea] at h0
  have hlt := World.block_lt_of_cell? w a h0
  have hsp : a.spot = none := by
   unfold World.cell? at h0
   split at h0
   ·split at h0
    ·cases h0
    ·rename_i hs; simpa using hs
   ·cases h0
  obtain ⟨b, off, sp⟩ := a
  simp only at hsp
  subst hsp
  refine ⟨b, off, rfl, hlt, fun i u hu => ?_⟩
  have := hx i u hu
  rwa [show (⟨b, off, none⟩ : Addr).add i = ⟨b, off + i, none⟩ by unfold Addr.add; split <;> simp_all] at this
theorem bq {P : Program} {H : Type} {enc : TypeId × Value → H} {w : World} {base : Nat} {spare : Nat → Bool} {held : Bool} {fuel : Nat} {cs : List Value} {f : Field} {o s : Nat} {α : Type} {R : Rep α}
  (h : bZ P f.type R) {y : Option (DataW H × List MemPlace)} (hf : DataW.trod enc P w base spare held fuel f.type ((cs.drop f.offset).take (P.cellsOf f.type)) = y) (hy : y.isSome = true) (ho : f.offset = o) (hs : P.cellsOf f.type = s) (hl : cs.length = o + s) :
  ∃ a F, R.rd w (cs.drop o) a F := by
 obtain ⟨y', rfl⟩ := Option.isSome_iff_exists.1 hy
 rw [ho, hs, List.take_of_length_le (by simp; omega)] at hf
 exact h H enc w base spare held fuel _ _ hf
theorem aq {P : Program} {H : Type} {enc : TypeId × Value → H} {w : World} {base : Nat} {spare : Nat → Bool} {held : Bool} {fuel : Nat} {cs : List Value} {f : Field} {o s : Nat} {α β : Type} {R : Rep α} {S : Rep β}
  (h : bZ P f.type R) {y : Option (DataW H × List MemPlace)} (hf : DataW.trod enc P w base spare held fuel f.type ((cs.drop f.offset).take (P.cellsOf f.type)) = y) (hy : y.isSome = true) (ho : f.offset = o) (hs : P.cellsOf f.type = s)
  (hrest : ∃ b G, S.rd w (cs.drop (o + s)) b G) : ∃ a F, (Rep.pair R S).rd w (cs.drop o) a F := by
 obtain ⟨y', rfl⟩ := Option.isSome_iff_exists.1 hy
 rw [ho, hs] at hf
 obtain ⟨a, F, ha⟩ := h H enc w base spare held fuel _ _ hf
 obtain ⟨b, G, hb⟩ := hrest
 exact ⟨(a, b), F ++ G, _, _, F, G, by rw [← List.drop_drop, List.take_append_drop], rfl, ha, hb⟩
theorem ay {α : Type} {l : List α} {n j : Nat} (h : l.length = n) (hj : j < n) : (l[j]?).isSome = true := by simp; omega
end Go.Proofs.YtcmknngafflcnaaGreat
namespace Go.Proofs.YtcmknngafflcnaaGreat
open Go.ChangeShapes Go.WideShapes Go.RowKit
theorem EK : Tryz.prog.cellsOf 51 = 5 := by kernel_rfl
theorem qc : bZ Tryz.prog 51 Rep.DOp := by
 intro H enc w base spare held fuel cs y h
 obtain ⟨ys, n, _, _, hl, hyl, hf⟩ := DataW.trod_struct Tryz.underlying51 h
 rw [EK] at hl
 have hk := aq (o := 0) (s := 1) (ax Tryz.underlying2) (hf 0 _ rfl) (ay hyl (by decide)) rfl (by kernel_rfl)
  (aq (o := 1) (s := 1) (ax Tryz.underlying2) (hf 1 _ rfl) (ay hyl (by decide)) rfl (by kernel_rfl)
  (aq (o := 2) (s := 1) (ax Tryz.underlying2) (hf 2 _ rfl) (ay hyl (by decide)) rfl (by kernel_rfl)
  (aq (o := 3) (s := 1) (ax Tryz.underlying2) (hf 3 _ rfl) (ay hyl (by decide)) rfl (by kernel_rfl)
  (bq (o := 4) (s := 1) (ax Tryz.underlying2) (hf 4 _ rfl) (ay hyl (by decide)) rfl (by kernel_rfl) hl))))
 obtain ⟨⟨a0, a1, a2, a3, a4⟩, F, hk⟩ := hk
 exact ⟨⟨a0, a1, a2, a3, a4⟩, F, hk⟩
theorem zj : Tryz.prog.cellsOf 294 = 9 := by kernel_rfl
theorem v9 : bZ Tryz.prog 294 Rep.DEntry := by
 intro H enc w base spare held fuel cs y h
 obtain ⟨ys, n, _, _, hl, hyl, hf⟩ := DataW.trod_struct Tryz.underlying294 h
 rw [zj] at hl
 have hk := aq (o := 0) (s := 1) (ax Tryz.underlying2) (hf 0 _ rfl) (ay hyl (by decide)) rfl (by kernel_rfl)
  (aq (o := 1) (s := 1) (ax Tryz.underlying2) (hf 1 _ rfl) (ay hyl (by decide)) rfl (by kernel_rfl)
  (aq (o := 2) (s := 1) (ax Tryz.underlying2) (hf 2 _ rfl) (ay hyl (by decide)) rfl (by kernel_rfl)
  (aq (o := 3) (s := 1) (ax Tryz.underlying2) (hf 3 _ rfl) (ay hyl (by decide)) rfl (by kernel_rfl)
  (bq (o := 4) (s := 5) qc (hf 4 _ rfl) (ay hyl (by decide)) rfl (by kernel_rfl) hl))))
 obtain ⟨⟨a0, a1, a2, a3, a4⟩, F, hk⟩ := hk
 exact ⟨⟨a0, a1, a2, a3, a4⟩, F, hk⟩
theorem BV : Tryz.prog.cellsOf 246 = 7 := by kernel_rfl
theorem yU : bZ Tryz.prog 246 Rep.DWant := by
 intro H enc w base spare held fuel cs y h
 obtain ⟨ys, n, _, _, hl, hyl, hf⟩ := DataW.trod_struct Tryz.underlying246 h
 rw [BV] at hl
 have hk := aq (o := 0) (s := 1) (ax Tryz.underlying2) (hf 0 _ rfl) (ay hyl (by decide)) rfl (by kernel_rfl)
  (aq (o := 1) (s := 5) qc (hf 1 _ rfl) (ay hyl (by decide)) rfl (by kernel_rfl)
  (bq (o := 6) (s := 1) (ax Tryz.underlying2) (hf 2 _ rfl) (ay hyl (by decide)) rfl (by kernel_rfl) hl))
 obtain ⟨⟨a0, a1, a2⟩, F, hk⟩ := hk
 exact ⟨⟨a0, a1, a2⟩, F, hk⟩
end Go.Proofs.YtcmknngafflcnaaGreat
namespace Go.Proofs.YtcmknngafflcnaaGreat
open Go.ChangeShapes Go.WideShapes Go.RowKit
theorem zq : Tryz.prog.cellsOf 273 = 2 := by kernel_rfl
theorem wd : bZ Tryz.prog 273 Rep.DWrite := by
 intro H enc w base spare held fuel cs y h
 obtain ⟨ys, n, _, _, hl, hyl, hf⟩ := DataW.trod_struct Tryz.underlying273 h
 rw [zq] at hl
 have hk :=
  aq (o := 0) (s := 1) (ax Tryz.underlying2) (hf 0 _ rfl) (ay hyl (by decide)) rfl (by kernel_rfl)
  (bq (o := 1) (s := 1) (bY Tryz.underlying62 (by kernel_rfl) (ax Tryz.underlying2)) (hf 1 _ rfl) (ay hyl (by decide)) rfl (by kernel_rfl) hl)
 obtain ⟨⟨a0, a1⟩, F, hk⟩ := hk
 exact ⟨⟨a0, a1⟩, F, hk⟩
theorem BO : Tryz.prog.cellsOf 25 = 2 := by kernel_rfl
theorem lA : bZ Tryz.prog 25 Rep.DDisk := by
 intro H enc w base spare held fuel cs y h
 obtain ⟨ys, n, _, _, hl, hyl, hf⟩ := DataW.trod_struct Tryz.underlying25 h
 rw [BO] at hl
 have hk :=
  aq (o := 0) (s := 1) (bY Tryz.underlying22 (by kernel_rfl) (bY Tryz.underlying62 (by kernel_rfl) (ax Tryz.underlying2))) (hf 0 _ rfl) (ay hyl (by decide)) rfl (by kernel_rfl)
  (bq (o := 1) (s := 1) (bY Tryz.underlying23 (by kernel_rfl) wd) (hf 1 _ rfl) (ay hyl (by decide)) rfl (by kernel_rfl) hl)
 obtain ⟨⟨a0, a1⟩, F, hk⟩ := hk
 exact ⟨⟨a0, a1⟩, F, hk⟩
theorem DB : Tryz.prog.cellsOf 27 = 4 := by kernel_rfl
theorem Bp : bZ Tryz.prog 27 Rep.DTwo := by
 intro H enc w base spare held fuel cs y h
 obtain ⟨ys, n, _, _, hl, hyl, hf⟩ := DataW.trod_struct Tryz.underlying27 h
 rw [DB] at hl
 have hk :=
  aq (o := 0) (s := 2) lA (hf 0 _ rfl) (ay hyl (by decide)) rfl (by kernel_rfl)
  (bq (o := 2) (s := 2) lA (hf 1 _ rfl) (ay hyl (by decide)) rfl (by kernel_rfl) hl)
 obtain ⟨⟨a0, a1⟩, F, hk⟩ := hk
 exact ⟨⟨a0, a1⟩, F, hk⟩
theorem BS : Tryz.prog.cellsOf 233 = 3 := by kernel_rfl
theorem rk : bZ Tryz.prog 233 Rep.DMark := by
 intro H enc w base spare held fuel cs y h
 obtain ⟨ys, n, _, _, hl, hyl, hf⟩ := DataW.trod_struct Tryz.underlying233 h
 rw [BS] at hl
 have hk :=
  aq (o := 0) (s := 1) (ax Tryz.underlying2) (hf 0 _ rfl) (ay hyl (by decide)) rfl (by kernel_rfl)
  (aq (o := 1) (s := 1) (ax Tryz.underlying2) (hf 1 _ rfl) (ay hyl (by decide)) rfl (by kernel_rfl)
  (bq (o := 2) (s := 1) (ax Tryz.underlying2) (hf 2 _ rfl) (ay hyl (by decide)) rfl (by kernel_rfl) hl))
 obtain ⟨⟨a0, a1, a2⟩, F, hk⟩ := hk
 exact ⟨⟨a0, a1, a2⟩, F, hk⟩
theorem BP : Tryz.prog.cellsOf 30 = 4 := by kernel_rfl
theorem rj : bZ Tryz.prog 30 Rep.DHead := by
 intro H enc w base spare held fuel cs y h
 obtain ⟨ys, n, _, _, hl, hyl, hf⟩ := DataW.trod_struct Tryz.underlying30 h
 rw [BP] at hl
 have hk :=
  aq (o := 0) (s := 1) (ax Tryz.underlying2) (hf 0 _ rfl) (ay hyl (by decide)) rfl (by kernel_rfl)
  (aq (o := 1) (s := 1) (ax Tryz.underlying2) (hf 1 _ rfl) (ay hyl (by decide)) rfl (by kernel_rfl)
  (aq (o := 2) (s := 1) (ax Tryz.underlying2) (hf 2 _ rfl) (ay hyl (by decide)) rfl (by kernel_rfl)
  (bq (o := 3) (s := 1) (bY Tryz.underlying28 (by kernel_rfl) rk) (hf 3 _ rfl) (ay hyl (by decide)) rfl (by kernel_rfl) hl)))
 obtain ⟨⟨a0, a1, a2, a3⟩, F, hk⟩ := hk
 exact ⟨⟨a0, a1, a2, a3⟩, F, hk⟩
theorem BN : Tryz.prog.cellsOf 33 = 3 := by kernel_rfl
theorem yP : bZ Tryz.prog 33 Rep.DBook := by
 intro H enc w base spare held fuel cs y h
 obtain ⟨ys, n, _, _, hl, hyl, hf⟩ := DataW.trod_struct Tryz.underlying33 h
 rw [BN] at hl
 have hk :=
  aq (o := 0) (s := 1) (ax Tryz.underlying2) (hf 0 _ rfl) (ay hyl (by decide)) rfl (by kernel_rfl)
  (aq (o := 1) (s := 1) (ax Tryz.underlying2) (hf 1 _ rfl) (ay hyl (by decide)) rfl (by kernel_rfl)
  (bq (o := 2) (s := 1) (bY Tryz.underlying31 (by kernel_rfl) v9) (hf 2 _ rfl) (ay hyl (by decide)) rfl (by kernel_rfl) hl))
 obtain ⟨⟨a0, a1, a2⟩, F, hk⟩ := hk
 exact ⟨⟨a0, a1, a2⟩, F, hk⟩
theorem Dv : Tryz.prog.cellsOf 237 = 4 := by kernel_rfl
theorem Bj : bZ Tryz.prog 237 Rep.DAck := by
 intro H enc w base spare held fuel cs y h
 obtain ⟨ys, n, _, _, hl, hyl, hf⟩ := DataW.trod_struct Tryz.underlying237 h
 rw [Dv] at hl
 have hk :=
  aq (o := 0) (s := 1) (ax Tryz.underlying2) (hf 0 _ rfl) (ay hyl (by decide)) rfl (by kernel_rfl)
  (aq (o := 1) (s := 1) (ax Tryz.underlying2) (hf 1 _ rfl) (ay hyl (by decide)) rfl (by kernel_rfl)
  (aq (o := 2) (s := 1) (ax Tryz.underlying2) (hf 2 _ rfl) (ay hyl (by decide)) rfl (by kernel_rfl)
  (bq (o := 3) (s := 1) (ax Tryz.underlying2) (hf 3 _ rfl) (ay hyl (by decide)) rfl (by kernel_rfl) hl)))
 obtain ⟨⟨a0, a1, a2, a3⟩, F, hk⟩ := hk
 exact ⟨⟨a0, a1, a2, a3⟩, F, hk⟩
theorem vV : Tryz.prog.cellsOf 36 = 19 := by kernel_rfl
theorem sY : bZ Tryz.prog 36 Rep.DLogNode := by
 intro H enc w base spare held fuel cs y h
 obtain ⟨ys, n, _, _, hl, hyl, hf⟩ := DataW.trod_struct Tryz.underlying36 h
 rw [vV] at hl
 have hk :=
  aq (o := 0) (s := 4) Bp (hf 0 _ rfl) (ay hyl (by decide)) rfl (by kernel_rfl)
  (aq (o := 4) (s := 4) rj (hf 1 _ rfl) (ay hyl (by decide)) rfl (by kernel_rfl)
  (aq (o := 8) (s := 4) rj (hf 2 _ rfl) (ay hyl (by decide)) rfl (by kernel_rfl)
  (aq (o := 12) (s := 1) (om Tryz.underlying4) (hf 3 _ rfl) (ay hyl (by decide)) rfl (by kernel_rfl)
  (aq (o := 13) (s := 3) yP (hf 4 _ rfl) (ay hyl (by decide)) rfl (by kernel_rfl)
  (aq (o := 16) (s := 1) (bY Tryz.underlying28 (by kernel_rfl) rk) (hf 5 _ rfl) (ay hyl (by decide)) rfl (by kernel_rfl)
  (aq (o := 17) (s := 1) (ax Tryz.underlying2) (hf 6 _ rfl) (ay hyl (by decide)) rfl (by kernel_rfl)
  (bq (o := 18) (s := 1) (bY Tryz.underlying34 (by kernel_rfl) Bj) (hf 7 _ rfl) (ay hyl (by decide)) rfl (by kernel_rfl) hl)))))))
 obtain ⟨⟨a0, a1, a2, a3, a4, a5, a6, a7⟩, F, hk⟩ := hk
 exact ⟨⟨a0, a1, a2, a3, a4, a5, a6, a7⟩, F, hk⟩
theorem BT : Tryz.prog.cellsOf 299 = 2 := by kernel_rfl
theorem yS : bZ Tryz.prog 299 Rep.DPair := by
 intro H enc w base spare held fuel cs y h
 obtain ⟨ys, n, _, _, hl, hyl, hf⟩ := DataW.trod_struct Tryz.underlying299 h
 rw [BT] at hl
 have hk :=
  aq (o := 0) (s := 1) (ax Tryz.underlying2) (hf 0 _ rfl) (ay hyl (by decide)) rfl (by kernel_rfl)
  (bq (o := 1) (s := 1) (ax Tryz.underlying2) (hf 1 _ rfl) (ay hyl (by decide)) rfl (by kernel_rfl) hl)
 obtain ⟨⟨a0, a1⟩, F, hk⟩ := hk
 exact ⟨⟨a0, a1⟩, F, hk⟩
theorem Dy : Tryz.prog.cellsOf 303 = 5 := by kernel_rfl
theorem Bm : bZ Tryz.prog 303 Rep.DJob := by
 intro H enc w base spare held fuel cs y h
 obtain ⟨ys, n, _, _, hl, hyl, hf⟩ := DataW.trod_struct Tryz.underlying303 h
 rw [Dy] at hl
 have hk :=
  aq (o := 0) (s := 1) (ax Tryz.underlying2) (hf 0 _ rfl) (ay hyl (by decide)) rfl (by kernel_rfl)
  (aq (o := 1) (s := 1) (ax Tryz.underlying2) (hf 1 _ rfl) (ay hyl (by decide)) rfl (by kernel_rfl)
  (aq (o := 2) (s := 1) (ax Tryz.underlying2) (hf 2 _ rfl) (ay hyl (by decide)) rfl (by kernel_rfl)
  (aq (o := 3) (s := 1) (ax Tryz.underlying2) (hf 3 _ rfl) (ay hyl (by decide)) rfl (by kernel_rfl)
  (bq (o := 4) (s := 1) (ax Tryz.underlying2) (hf 4 _ rfl) (ay hyl (by decide)) rfl (by kernel_rfl) hl))))
 obtain ⟨⟨a0, a1, a2, a3, a4⟩, F, hk⟩ := hk
 exact ⟨⟨a0, a1, a2, a3, a4⟩, F, hk⟩
theorem zk : Tryz.prog.cellsOf 40 = 3 := by kernel_rfl
theorem wa : bZ Tryz.prog 40 Rep.DLease := by
 intro H enc w base spare held fuel cs y h
 obtain ⟨ys, n, _, _, hl, hyl, hf⟩ := DataW.trod_struct Tryz.underlying40 h
 rw [zk] at hl
 have hk :=
  aq (o := 0) (s := 1) (ax Tryz.underlying2) (hf 0 _ rfl) (ay hyl (by decide)) rfl (by kernel_rfl)
  (aq (o := 1) (s := 1) (ax Tryz.underlying2) (hf 1 _ rfl) (ay hyl (by decide)) rfl (by kernel_rfl)
  (bq (o := 2) (s := 1) (ax Tryz.underlying2) (hf 2 _ rfl) (ay hyl (by decide)) rfl (by kernel_rfl) hl))
 obtain ⟨⟨a0, a1, a2⟩, F, hk⟩ := hk
 exact ⟨⟨a0, a1, a2⟩, F, hk⟩
theorem zm : Tryz.prog.cellsOf 42 = 7 := by kernel_rfl
theorem wb : bZ Tryz.prog 42 Rep.DState := by
 intro H enc w base spare held fuel cs y h
 obtain ⟨ys, n, _, _, hl, hyl, hf⟩ := DataW.trod_struct Tryz.underlying42 h
 rw [zm] at hl
 have hk :=
  aq (o := 0) (s := 1) (ax Tryz.underlying2) (hf 0 _ rfl) (ay hyl (by decide)) rfl (by kernel_rfl)
  (aq (o := 1) (s := 1) (ax Tryz.underlying2) (hf 1 _ rfl) (ay hyl (by decide)) rfl (by kernel_rfl)
  (aq (o := 2) (s := 1) (bY Tryz.underlying37 (by kernel_rfl) yS) (hf 2 _ rfl) (ay hyl (by decide)) rfl (by kernel_rfl)
  (aq (o := 3) (s := 1) (bY Tryz.underlying38 (by kernel_rfl) Bm) (hf 3 _ rfl) (ay hyl (by decide)) rfl (by kernel_rfl)
  (bq (o := 4) (s := 3) wa (hf 4 _ rfl) (ay hyl (by decide)) rfl (by kernel_rfl) hl))))
 obtain ⟨⟨a0, a1, a2, a3, a4⟩, F, hk⟩ := hk
 exact ⟨⟨a0, a1, a2, a3, a4⟩, F, hk⟩
theorem zn : Tryz.prog.cellsOf 44 = 12 := by kernel_rfl
theorem wc : bZ Tryz.prog 44 Rep.DStore := by
 intro H enc w base spare held fuel cs y h
 obtain ⟨ys, n, _, _, hl, hyl, hf⟩ := DataW.trod_struct Tryz.underlying44 h
 rw [zn] at hl
 have hk :=
  aq (o := 0) (s := 2) lA (hf 0 _ rfl) (ay hyl (by decide)) rfl (by kernel_rfl)
  (aq (o := 2) (s := 7) wb (hf 1 _ rfl) (ay hyl (by decide)) rfl (by kernel_rfl)
  (aq (o := 9) (s := 1) (ax Tryz.underlying2) (hf 2 _ rfl) (ay hyl (by decide)) rfl (by kernel_rfl)
  (aq (o := 10) (s := 1) (ax Tryz.underlying2) (hf 3 _ rfl) (ay hyl (by decide)) rfl (by kernel_rfl)
  (bq (o := 11) (s := 1) (ax Tryz.underlying2) (hf 4 _ rfl) (ay hyl (by decide)) rfl (by kernel_rfl) hl))))
 obtain ⟨⟨a0, a1, a2, a3, a4⟩, F, hk⟩ := hk
 exact ⟨⟨a0, a1, a2, a3, a4⟩, F, hk⟩
theorem Dw : Tryz.prog.cellsOf 332 = 2 := by kernel_rfl
theorem Bk : bZ Tryz.prog 332 Rep.DDue := by
 intro H enc w base spare held fuel cs y h
 obtain ⟨ys, n, _, _, hl, hyl, hf⟩ := DataW.trod_struct Tryz.underlying332 h
 rw [Dw] at hl
 have hk :=
  aq (o := 0) (s := 1) (ax Tryz.underlying2) (hf 0 _ rfl) (ay hyl (by decide)) rfl (by kernel_rfl)
  (bq (o := 1) (s := 1) (ax Tryz.underlying2) (hf 1 _ rfl) (ay hyl (by decide)) rfl (by kernel_rfl) hl)
 obtain ⟨⟨a0, a1⟩, F, hk⟩ := hk
 exact ⟨⟨a0, a1⟩, F, hk⟩
theorem BQ : Tryz.prog.cellsOf 47 = 6 := by kernel_rfl
theorem yQ : bZ Tryz.prog 47 Rep.DJobs := by
 intro H enc w base spare held fuel cs y h
 obtain ⟨ys, n, _, _, hl, hyl, hf⟩ := DataW.trod_struct Tryz.underlying47 h
 rw [BQ] at hl
 have hk :=
  aq (o := 0) (s := 1) (ax Tryz.underlying2) (hf 0 _ rfl) (ay hyl (by decide)) rfl (by kernel_rfl)
  (aq (o := 1) (s := 1) (ax Tryz.underlying2) (hf 1 _ rfl) (ay hyl (by decide)) rfl (by kernel_rfl)
  (aq (o := 2) (s := 1) (ax Tryz.underlying2) (hf 2 _ rfl) (ay hyl (by decide)) rfl (by kernel_rfl)
  (aq (o := 3) (s := 1) (ax Tryz.underlying2) (hf 3 _ rfl) (ay hyl (by decide)) rfl (by kernel_rfl)
  (aq (o := 4) (s := 1) (ax Tryz.underlying2) (hf 4 _ rfl) (ay hyl (by decide)) rfl (by kernel_rfl)
  (bq (o := 5) (s := 1) (bY Tryz.underlying45 (by kernel_rfl) Bk) (hf 5 _ rfl) (ay hyl (by decide)) rfl (by kernel_rfl) hl)))))
 obtain ⟨⟨a0, a1, a2, a3, a4, a5⟩, F, hk⟩ := hk
 exact ⟨⟨a0, a1, a2, a3, a4, a5⟩, F, hk⟩
theorem BU : Tryz.prog.cellsOf 49 = 6 := by kernel_rfl
theorem yT : bZ Tryz.prog 49 Rep.DView := by
 intro H enc w base spare held fuel cs y h
 obtain ⟨ys, n, _, _, hl, hyl, hf⟩ := DataW.trod_struct Tryz.underlying49 h
 rw [BU] at hl
 have hk :=
  bq (o := 0) (s := 6) yQ (hf 0 _ rfl) (ay hyl (by decide)) rfl (by kernel_rfl) hl
 obtain ⟨a0, F, hk⟩ := hk
 exact ⟨⟨a0⟩, F, hk⟩
theorem zl : Tryz.prog.cellsOf 53 = 15 := by kernel_rfl
theorem pM : bZ Tryz.prog 53 Rep.DSched := by
 intro H enc w base spare held fuel cs y h
 obtain ⟨ys, n, _, _, hl, hyl, hf⟩ := DataW.trod_struct Tryz.underlying53 h
 rw [zl] at hl
 have hk :=
  aq (o := 0) (s := 1) (ax Tryz.underlying2) (hf 0 _ rfl) (ay hyl (by decide)) rfl (by kernel_rfl)
  (aq (o := 1) (s := 1) (ax Tryz.underlying2) (hf 1 _ rfl) (ay hyl (by decide)) rfl (by kernel_rfl)
  (aq (o := 2) (s := 6) yT (hf 2 _ rfl) (ay hyl (by decide)) rfl (by kernel_rfl)
  (aq (o := 8) (s := 1) (om Tryz.underlying4) (hf 3 _ rfl) (ay hyl (by decide)) rfl (by kernel_rfl)
  (aq (o := 9) (s := 5) qc (hf 4 _ rfl) (ay hyl (by decide)) rfl (by kernel_rfl)
  (bq (o := 14) (s := 1) (ax Tryz.underlying2) (hf 5 _ rfl) (ay hyl (by decide)) rfl (by kernel_rfl) hl)))))
 obtain ⟨⟨a0, a1, a2, a3, a4, a5⟩, F, hk⟩ := hk
 exact ⟨⟨a0, a1, a2, a3, a4, a5⟩, F, hk⟩
theorem Dx : Tryz.prog.cellsOf 248 = 4 := by kernel_rfl
theorem Bl : bZ Tryz.prog 248 Rep.DGot := by
 intro H enc w base spare held fuel cs y h
 obtain ⟨ys, n, _, _, hl, hyl, hf⟩ := DataW.trod_struct Tryz.underlying248 h
 rw [Dx] at hl
 have hk :=
  aq (o := 0) (s := 1) (ax Tryz.underlying2) (hf 0 _ rfl) (ay hyl (by decide)) rfl (by kernel_rfl)
  (aq (o := 1) (s := 1) (ax Tryz.underlying2) (hf 1 _ rfl) (ay hyl (by decide)) rfl (by kernel_rfl)
  (aq (o := 2) (s := 1) (ax Tryz.underlying2) (hf 2 _ rfl) (ay hyl (by decide)) rfl (by kernel_rfl)
  (bq (o := 3) (s := 1) (ax Tryz.underlying2) (hf 3 _ rfl) (ay hyl (by decide)) rfl (by kernel_rfl) hl)))
 obtain ⟨⟨a0, a1, a2, a3⟩, F, hk⟩ := hk
 exact ⟨⟨a0, a1, a2, a3⟩, F, hk⟩
theorem xV : Tryz.prog.cellsOf 57 = 4 := by kernel_rfl
theorem ol : bZ Tryz.prog 57 Rep.DClient := by
 intro H enc w base spare held fuel cs y h
 obtain ⟨ys, n, _, _, hl, hyl, hf⟩ := DataW.trod_struct Tryz.underlying57 h
 rw [xV] at hl
 have hk :=
  aq (o := 0) (s := 1) (ax Tryz.underlying2) (hf 0 _ rfl) (ay hyl (by decide)) rfl (by kernel_rfl)
  (aq (o := 1) (s := 1) (bY Tryz.underlying54 (by kernel_rfl) yU) (hf 1 _ rfl) (ay hyl (by decide)) rfl (by kernel_rfl)
  (aq (o := 2) (s := 1) (bY Tryz.underlying55 (by kernel_rfl) Bl) (hf 2 _ rfl) (ay hyl (by decide)) rfl (by kernel_rfl)
  (bq (o := 3) (s := 1) (ax Tryz.underlying2) (hf 3 _ rfl) (ay hyl (by decide)) rfl (by kernel_rfl) hl)))
 obtain ⟨⟨a0, a1, a2, a3⟩, F, hk⟩ := hk
 exact ⟨⟨a0, a1, a2, a3⟩, F, hk⟩
theorem Dz : Tryz.prog.cellsOf 210 = 3 := by kernel_rfl
theorem Bn : bZ Tryz.prog 210 Rep.DMsg := by
 intro H enc w base spare held fuel cs y h
 obtain ⟨ys, n, _, _, hl, hyl, hf⟩ := DataW.trod_struct Tryz.underlying210 h
 rw [Dz] at hl
 have hk :=
  aq (o := 0) (s := 1) (ax Tryz.underlying2) (hf 0 _ rfl) (ay hyl (by decide)) rfl (by kernel_rfl)
  (aq (o := 1) (s := 1) (ax Tryz.underlying2) (hf 1 _ rfl) (ay hyl (by decide)) rfl (by kernel_rfl)
  (bq (o := 2) (s := 1) (bY Tryz.underlying62 (by kernel_rfl) (ax Tryz.underlying2)) (hf 2 _ rfl) (ay hyl (by decide)) rfl (by kernel_rfl) hl))
 obtain ⟨⟨a0, a1, a2⟩, F, hk⟩ := hk
 exact ⟨⟨a0, a1, a2⟩, F, hk⟩
theorem BR : Tryz.prog.cellsOf 251 = 2 := by kernel_rfl
theorem yR : bZ Tryz.prog 251 Rep.DLink := by
 intro H enc w base spare held fuel cs y h
 obtain ⟨ys, n, _, _, hl, hyl, hf⟩ := DataW.trod_struct Tryz.underlying251 h
 rw [BR] at hl
 have hk :=
  aq (o := 0) (s := 1) (ax Tryz.underlying2) (hf 0 _ rfl) (ay hyl (by decide)) rfl (by kernel_rfl)
  (bq (o := 1) (s := 1) (ax Tryz.underlying2) (hf 1 _ rfl) (ay hyl (by decide)) rfl (by kernel_rfl) hl)
 obtain ⟨⟨a0, a1⟩, F, hk⟩ := hk
 exact ⟨⟨a0, a1⟩, F, hk⟩
theorem DA : Tryz.prog.cellsOf 61 = 2 := by kernel_rfl
theorem Bo : bZ Tryz.prog 61 Rep.DNet := by
 intro H enc w base spare held fuel cs y h
 obtain ⟨ys, n, _, _, hl, hyl, hf⟩ := DataW.trod_struct Tryz.underlying61 h
 rw [DA] at hl
 have hk :=
  aq (o := 0) (s := 1) (bY Tryz.underlying58 (by kernel_rfl) Bn) (hf 0 _ rfl) (ay hyl (by decide)) rfl (by kernel_rfl)
  (bq (o := 1) (s := 1) (bY Tryz.underlying59 (by kernel_rfl) yR) (hf 1 _ rfl) (ay hyl (by decide)) rfl (by kernel_rfl) hl)
 obtain ⟨⟨a0, a1⟩, F, hk⟩ := hk
 exact ⟨⟨a0, a1⟩, F, hk⟩
theorem zo : Tryz.prog.cellsOf 65 = 73 := by kernel_rfl
theorem pN : bZ Tryz.prog 65 Rep.DWorld := by
 intro H enc w base spare held fuel cs y h
 obtain ⟨ys, n, _, _, hl, hyl, hf⟩ := DataW.trod_struct Tryz.underlying65 h
 rw [zo] at hl
 have hk :=
  aq (o := 0) (s := 19) sY (hf 0 _ rfl) (ay hyl (by decide)) rfl (by kernel_rfl)
  (aq (o := 19) (s := 12) wc (hf 1 _ rfl) (ay hyl (by decide)) rfl (by kernel_rfl)
  (aq (o := 31) (s := 15) pM (hf 2 _ rfl) (ay hyl (by decide)) rfl (by kernel_rfl)
  (aq (o := 46) (s := 15) pM (hf 3 _ rfl) (ay hyl (by decide)) rfl (by kernel_rfl)
  (aq (o := 61) (s := 4) ol (hf 4 _ rfl) (ay hyl (by decide)) rfl (by kernel_rfl)
  (aq (o := 65) (s := 4) ol (hf 5 _ rfl) (ay hyl (by decide)) rfl (by kernel_rfl)
  (aq (o := 69) (s := 2) Bo (hf 6 _ rfl) (ay hyl (by decide)) rfl (by kernel_rfl)
  (aq (o := 71) (s := 1) (bY Tryz.underlying62 (by kernel_rfl) (ax Tryz.underlying2)) (hf 7 _ rfl) (ay hyl (by decide)) rfl (by kernel_rfl)
  (bq (o := 72) (s := 1) (bY Tryz.underlying63 (by kernel_rfl) (om Tryz.underlying4)) (hf 8 _ rfl) (ay hyl (by decide)) rfl (by kernel_rfl) hl))))))))
 obtain ⟨⟨a0, a1, a2, a3, a4, a5, a6, a7, a8⟩, F, hk⟩ := hk
 exact ⟨⟨a0, a1, a2, a3, a4, a5, a6, a7, a8⟩, F, hk⟩
end Go.Proofs.YtcmknngafflcnaaGreat
