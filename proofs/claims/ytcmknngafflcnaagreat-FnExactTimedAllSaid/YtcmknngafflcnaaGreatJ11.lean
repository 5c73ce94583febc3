/- J11 -/
import Derived.Test.YtcmknngafflcnaaGreatJ10
import Derived.Test.YtcmknngafflcnaaGreatJ02
import Derived.Test.YtcmknngafflcnaaGreatJ07
set_option linter.unusedVariables false
set_option linter.unusedSimpArgs false
set_option maxRecDepth 100000
namespace Go.Proofs.YtcmknngafflcnaaGreat
open Go.ChangeShapes Go.WideShapes Go.RowKit
def mf : List (List Nat) := bA [0, 1, 129, 12354, 0, 0, 6, 0, 29064, 1134768026845575, 0, 12864277808390344836]
def mD : List (List Nat) := bQ 11 [137700, 137701, 137704, 137713, 137618, 122714, 122957, 120284, 121499, 127939, 59048]
def mg : List (List Nat) := bA [0, 1, 129, 0, 4, 0, 6, 454, 33159, 0, 348045206026, 3477390936682303749, 891282945137324073027, 61613317297253055217996, 61613317297253055217996, 311902252276487849558862, 313778539262838596778864769]
def mE : List (List Nat) := bQ 16 [177120, 177121, 177124, 58832, 58859, 39608, 39851, 40580, 42767, 19682, 29537, 88573, 265720, 10363099, 32683621, 11957422]
def pd : List (List Nat) := bA [0, 1, 129, 12354, 12354, 1318979, 4328796549, 486506500228, 13265141784903, 2564411225022531, 180992954169053641, 12846258869076758730, 180992954169053641, 15152101878290452682, 1044601217194554323533, 180992954169053641, 18610866392110993610, 1265962146079068942928, 61643244241572623809819474207761, 6253342968646612939663330639098508, 208670669043823421316907952234890323, 28314001861476616795539653203079991498, 1884907940883966248012842449817758143701, 127036007146039858029436393339887821271702, 8483413557665557517948716269031472085939543, 494117307255086448119078571165026390822458840]
def ph : List (List Nat) := bQ 18 [0, 1, 4, 661, 67, 148, 364, 1093, 3280, 9841, 386918572, 386977621, 373573498, 374104939, 375699262, 14319382, 28668289, 71715010]
def pe : List (List Nat) := bA [0, 1, 129, 0, 4, 324, 24837, 0, 8, 848968016749128, 182435784024662083, 12736470503747260938, 897119605715636850891, 12736470503747260938, 12736470503747260938, 1118480534600151470283, 76372997838154148119183, 273860148148388040230638544, 66793074800348938976694370366542, 3584997738418217364984844423078669, 419664783318470256266126788995322059]
def pi : List (List Nat) := bQ 18 [19656, 19657, 19660, 17522, 17549, 17630, 17873, 2186, 4373, 9841, 29524, 385914739, 386091886, 125862943, 4694395, 9477364, 23826271, 65278669]
def uR (n : DLogNode) (i : Int) : DHead := ⟨n.head.num + 1, i, yO n.book i, (aW n.head.seen (hG n.book (n.book.base + 1) i)).1⟩
theorem vz (n : DLogNode) (i : Int) (hb : bP n.book = true) (hn : 0 ≤ n.head.num ∧ n.head.num ≤ 2000) (h1 : n.book.base + 1 ≤ i) (h2 : i ≤ cM n.book) : ak av 217 [.agg n.ds, .one (dI i)] (.val (.agg (uR n i).ds)) := by
  have hp := cp hb
  have hq := dC hb
  have h20 := hp.2.2.1
  refine ac ah Tryz.func217 rfl Tryz.call217 Tryz.ntmps217 (congrArg Array.toList Tryz.results217) fun S => ?_; conv => whnf
  repeat' (first | (refine aw0 ?_) | ((first | refine aw1 ?_ | refine aw2 ?_ | refine aw3 ?_ | refine aw4 ?_ | refine aw5 ?_ | refine aw6 ?_ | refine aw7 ?_ | refine aw8 ?_); conv => whnf) | ((first | refine bT ?_ | refine bF ?_); conv => whnf) | (refine AWP.drawK ah 1 11 mf mD (by kernel_rfl) (by kernel_rfl) (by kernel_rfl) rfl ?_; conv => whnf) | (refine AW.i64 (by omega) (by omega) ?_; conv => whnf) | (refine aa.pure (sN n.book i hb h1 h2) rfl ?_; conv => whnf) | (refine ae.mk ⟨_, _, sN n.book i hb h1 h2, .inl rfl, ?_⟩; conv => whnf) | (exact rr) | (refine And.intro rfl ?_; conv => whnf) | (refine AB.mk (fun h => ?_) (fun h => ?_) <;> (conv => whnf)))
  refine AWP.drawSO ah 2 16 mg mE 15 13 (by kernel_rfl) (by kernel_rfl) (by kernel_rfl) rfl ⟨_, rfl, rfl, rfl, rfl⟩ rfl rfl rfl rfl ?_; conv => whnf
  repeat' (first | (refine aw0 ?_) | ((first | refine aw1 ?_ | refine aw2 ?_ | refine aw3 ?_ | refine aw4 ?_ | refine aw5 ?_ | refine aw6 ?_ | refine aw7 ?_ | refine aw8 ?_); conv => whnf) | ((first | refine bT ?_ | refine bF ?_); conv => whnf) | (refine AW.i64 (by omega) (by omega) ?_; conv => whnf) | (refine aa.pure (lp n.book _ _ h20) rfl ?_; conv => whnf) | (refine ae.mk ⟨_, _, lp n.book _ _ h20, .inl rfl, ?_⟩; conv => whnf) | (refine aa.pure (jg n.head.seen (hG n.book (n.book.base + 1) i)) rfl ?_; conv => whnf) | (refine ae.mk ⟨_, _, jg n.head.seen (hG n.book (n.book.base + 1) i), .inl rfl, ?_⟩; conv => whnf) | (exact rr) | (refine And.intro rfl ?_; conv => whnf) | (refine AB.mk (fun h => ?_) (fun h => ?_) <;> (conv => whnf)))
  refine ⟨_, _, _, _, _, ?o1, rfl, rfl, rfl, rfl, ?hst, ?hk⟩
  case hst =>
    conv => whnf
  conv => whnf
  refine ⟨rfl, ?_, ?_⟩
  · repeat' (first | exact trivial | exact ⟨rfl, rfl⟩ | (refine ⟨?_, ?_⟩) | (refine aw0 ?_) | ((first | refine aw1 ?_ | refine aw2 ?_ | refine aw3 ?_ | refine aw4 ?_ | refine aw5 ?_ | refine aw6 ?_ | refine aw7 ?_ | refine aw8 ?_); conv => whnf) | ((first | refine bT ?_ | refine bF ?_); conv => whnf) | (conv => whnf))
  conv => whnf
  repeat' (first | (refine aw0 ?_) | ((first | refine aw1 ?_ | refine aw2 ?_ | refine aw3 ?_ | refine aw4 ?_ | refine aw5 ?_ | refine aw6 ?_ | refine aw7 ?_ | refine aw8 ?_); conv => whnf) | ((first | refine bT ?_ | refine bF ?_); conv => whnf) | (exact rr) | (refine And.intro rfl ?_; conv => whnf) | (refine AB.mk (fun h => ?_) (fun h => ?_) <;> (conv => whnf)))
  all_goals rfl
theorem Gt {α : Type} [BEq α] [LawfulBEq α] [DecidableEq α] (x : α × Bool) (s : α) : (x == (s, true)) = (x.2 && decide (x.1 = s)) := by
  obtain ⟨a, b⟩ := x
  cases b <;> (rw [Bool.eq_iff_iff]; simp [Prod.mk.injEq])
def i7 (n : DLogNode) : Bool := p4 n.two && ej n.head && bP n.book && n.book.base == n.head.base && n.book.time == n.head.time
def i9 (n : DLogNode) : Bool := (aW n.head.seen n.book.entries).2 && decide ((aW n.head.seen n.book.entries).1 = n.seen) && aj n.durable n.book.base (cM n.book)
theorem s9 {α : Type} [BEq α] [LawfulBEq α] [DecidableEq α] (a b : α) : (a == b) = decide (a = b) := by
  rw [Bool.eq_iff_iff]; simp
theorem nV (n : DLogNode) : jZ n = (i7 n && i9 n && decide (n.owe = (d5 n.book n.durable).map bI) && gH n) := by
  simp only [jZ, i7, i9, Gt, Bool.and_assoc, s9 n.owe]
theorem E5 {n : DLogNode} (h : i7 n = true) : p4 n.two = true ∧ ej n.head = true ∧ bP n.book = true ∧ n.book.base = n.head.base ∧ n.book.time = n.head.time := by
  simp only [i7, Bool.and_eq_true, beq_iff_eq] at h
  exact ⟨h.1.1.1.1, h.1.1.1.2, h.1.1.2, h.1.2, h.2⟩
theorem iU {h : DHead} (hh : ej h = true) : (0 ≤ h.num ∧ h.num ≤ 2000) ∧ (0 ≤ h.base ∧ h.base ≤ 2000) ∧ bw h.seen = true := by
  simp only [ej, Bool.and_eq_true, aj, decide_eq_true_eq] at hh
  exact ⟨by omega, by omega, hh.1.2⟩
theorem C2 {n : DLogNode} (h : i7 n = false) : jZ n = false := by simp only [nV, h, Bool.false_and]
theorem oQ {n : DLogNode} (h : i9 n = false) : jZ n = false := by simp only [nV, h, Bool.false_and, Bool.and_false]
theorem Gk {n : DLogNode} (h : decide (n.owe = (d5 n.book n.durable).map bI) = false) : jZ n = false := by simp only [nV, h, Bool.false_and, Bool.and_false]
theorem Gl {n : DLogNode} {b : Bool} (h1 : i7 n = true) (h2 : i9 n = true) (h3 : decide (n.owe = (d5 n.book n.durable).map bI) = true) (h : b = gH n) : b = jZ n := by simp only [nV, h1, h2, h3, h, Bool.true_and]
theorem ye {n : DLogNode} (h : (!aj n.durable n.book.base (cM n.book)) = false) : n.book.base ≤ n.durable ∧ n.durable ≤ cM n.book := by
  simpa [aj] using h
theorem H6 {n : DLogNode} (h : (!(aW n.head.seen n.book.entries).snd) = true) : i9 n = false := by
  rw [Bool.not_eq_true'] at h; simp only [i9, h, Bool.false_and]
theorem H7 {n : DLogNode} (h : (!decide ((aW n.head.seen n.book.entries).fst = n.seen)) = true) : i9 n = false := by
  rw [Bool.not_eq_true'] at h; simp only [i9, h, Bool.false_and, Bool.and_false]
theorem H8 {n : DLogNode} (h : (!aj n.durable n.book.base (cM n.book)) = true) : i9 n = false := by
  rw [Bool.not_eq_true'] at h; simp only [i9, h, Bool.and_false]
theorem H9 {n : DLogNode} (h1 : (!(aW n.head.seen n.book.entries).snd) = false) (h2 : (!decide ((aW n.head.seen n.book.entries).fst = n.seen)) = false) (h3 : (!aj n.durable n.book.base (cM n.book)) = false) : i9 n = true := by
  rw [Bool.not_eq_false'] at h1 h2 h3; simp only [i9, h1, h2, h3, Bool.and_self]
theorem uW {s : List DMark} {l : List DEntry} (h : bw s = true) : (aW s l).1.length ≤ 4 := by
  unfold aW
  simp only [h, Bool.not_true, Bool.false_eq_true, if_false]
  split
  · exact d9 h
  · cases hf : bL s l with
    | none => exact d9 h
    | some c => exact d9 (jT h hf)
theorem sw {n : DLogNode} (h : (!n.more) = true) : decide (n.nxt = lE) = gH n := by
  rw [Bool.not_eq_true'] at h; simp only [gH, h, Bool.false_eq_true, if_false, s9 n.nxt]
theorem sv {n : DLogNode} (hb : bP n.book = true) : uR n n.nxt.base = gW n := by
  simp only [uR, gW, Gv hb, yO, yf]
theorem oT {n : DLogNode} (hm : (!n.more) = false) : gH n = (aj n.nxt.base (n.head.base + 1) n.durable && decide (n.nxt = gW n)) := by
  rw [Bool.not_eq_false'] at hm; simp only [gH, hm, if_true, s9 n.nxt]
theorem C5 {n : DLogNode} (hbb : n.book.base = n.head.base) (h : aj n.nxt.base (n.head.base + 1) n.durable = true) : n.book.base + 1 ≤ n.nxt.base := by
  simp only [aj, Bool.and_eq_true, decide_eq_true_eq] at h; omega
theorem C4 {n : DLogNode} (h3 : (!aj n.durable n.book.base (cM n.book)) = false) (h : aj n.nxt.base (n.head.base + 1) n.durable = true) : n.nxt.base ≤ cM n.book := by
  have := ye h3
  simp only [aj, Bool.and_eq_true, decide_eq_true_eq] at h; omega
set_option maxHeartbeats 2000000 in
theorem AQ (n : DLogNode) (hhs : n.head.seen.length ≤ 9223372036854775806) (ho : n.owe.length ≤ 9223372036854775806) (hs : n.seen.length ≤ 9223372036854775806) (hx : n.nxt.seen.length ≤ 9223372036854775806) : ak av 141 [.agg n.ds] (rB (jZ n)) := by
  refine ac ah Tryz.func141 rfl Tryz.call141 Tryz.ntmps141 (congrArg Array.toList Tryz.results141) fun S => ?_; conv => whnf
  repeat' (first | (refine aw0 ?_) | ((first | refine aw1 ?_ | refine aw2 ?_ | refine aw3 ?_ | refine aw4 ?_ | refine aw5 ?_ | refine aw6 ?_ | refine aw7 ?_ | refine aw8 ?_); conv => whnf) | ((first | refine bT ?_ | refine bF ?_); conv => whnf) | (refine aa.pure (xh n.two) rfl ?_; conv => whnf) | (refine ae.mk ⟨_, _, xh n.two, .inl rfl, ?_⟩; conv => whnf) | (refine aa.pure (xg n.head hhs) rfl ?_; conv => whnf) | (refine ae.mk ⟨_, _, xg n.head hhs, .inl rfl, ?_⟩; conv => whnf) | (refine aa.pure (xf n.book) rfl ?_; conv => whnf) | (refine ae.mk ⟨_, _, xf n.book, .inl rfl, ?_⟩; conv => whnf) | (refine aa.pure (jg n.head.seen n.book.entries) rfl ?_; conv => whnf) | (refine ae.mk ⟨_, _, jg n.head.seen n.book.entries, .inl rfl, ?_⟩; conv => whnf) | (exact rr) | (refine And.intro rfl ?_; conv => whnf) | (refine AB.mk (fun h => ?_) (fun h => ?_) <;> (conv => whnf)))
  all_goals first
    | (have hno : i7 n = false := by simp_all [i7]
       rw [C2 hno]; done)
    | skip
  have h1 : i7 n = true := by simp_all [i7]
  obtain ⟨hk, hh, hb, hbb, htt⟩ := E5 h1
  have hq := iU hh
  have hp := cp hb
  have hl := dC hb
  have hsv : (aW n.head.seen n.book.entries).1.length ≤ 9223372036854775806 := Nat.le_trans (uW hq.2.2) (by decide)
  repeat' (first | (refine aw0 ?_) | ((first | refine aw1 ?_ | refine aw2 ?_ | refine aw3 ?_ | refine aw4 ?_ | refine aw5 ?_ | refine aw6 ?_ | refine aw7 ?_ | refine aw8 ?_); conv => whnf) | ((first | refine bT ?_ | refine bF ?_); conv => whnf) | (refine AWP.drawK ah 4 18 pd ph (by kernel_rfl) (by kernel_rfl) (by kernel_rfl) rfl ?_; conv => whnf) | (refine aa.pure (jf (aW n.head.seen n.book.entries).1 n.seen hsv) rfl ?_; conv => whnf) | (refine ae.mk ⟨_, _, jf (aW n.head.seen n.book.entries).1 n.seen hsv, .inl rfl, ?_⟩; conv => whnf) | (refine aa.pure (xo n.book hb) rfl ?_; conv => whnf) | (refine ae.mk ⟨_, _, xo n.book hb, .inl rfl, ?_⟩; conv => whnf) | (refine aa.pure (aL _ _ _) rfl ?_; conv => whnf) | (refine ae.mk ⟨_, _, aL _ _ _, .inl rfl, ?_⟩; conv => whnf) | (refine aa.pure (vA n hb (ye (by assumption)) ho) rfl ?_; conv => whnf) | (refine ae.mk ⟨_, _, vA n hb (ye (by assumption)) ho, .inl rfl, ?_⟩; conv => whnf) | (exact rr) | (refine And.intro rfl ?_; conv => whnf) | (refine AB.mk (fun h => ?_) (fun h => ?_) <;> (conv => whnf)))
  all_goals first
    | (rw [oQ (H6 h)]; done)
    | (rw [oQ (H7 h)]; done)
    | (rw [oQ (H8 h)]; done)
    | (rw [Gk (by rwa [Bool.not_eq_true'] at h)]; done)
    | skip
  all_goals
    have h2 : i9 n = true := H9 (by assumption) (by assumption) (by assumption)
    have h3 : decide (n.owe = (d5 n.book n.durable).map bI) = true := by
      have : (!decide (n.owe = List.map bI (d5 n.book n.durable))) = false := by assumption
      rwa [Bool.not_eq_false'] at this
    repeat' (first | (refine aw0 ?_) | ((first | refine aw1 ?_ | refine aw2 ?_ | refine aw3 ?_ | refine aw4 ?_ | refine aw5 ?_ | refine aw6 ?_ | refine aw7 ?_ | refine aw8 ?_); conv => whnf) | ((first | refine bT ?_ | refine bF ?_); conv => whnf) | (refine AWP.drawK ah 8 18 pe pi (by kernel_rfl) (by kernel_rfl) (by kernel_rfl) rfl ?_; conv => whnf) | (refine AW.i64 (by omega) (by omega) ?_; conv => whnf) | (refine aa.pure (aL _ _ _) rfl ?_; conv => whnf) | (refine ae.mk ⟨_, _, aL _ _ _, .inl rfl, ?_⟩; conv => whnf) | (refine aa.pure (fZ n.nxt lE hx) rfl ?_; conv => whnf) | (refine ae.mk ⟨_, _, fZ n.nxt lE hx, .inl rfl, ?_⟩; conv => whnf) | (refine aa.pure (vz n n.nxt.base hb hq.1 (C5 hbb (by assumption)) (C4 (by assumption) (by assumption))) rfl ?_; conv => whnf) | (refine ae.mk ⟨_, _, vz n n.nxt.base hb hq.1 (C5 hbb (by assumption)) (C4 (by assumption) (by assumption)), .inl rfl, ?_⟩; conv => whnf) | (refine aa.pure (fZ n.nxt (uR n n.nxt.base) hx) rfl ?_; conv => whnf) | (refine ae.mk ⟨_, _, fZ n.nxt (uR n n.nxt.base) hx, .inl rfl, ?_⟩; conv => whnf) | (exact rr) | (refine And.intro rfl ?_; conv => whnf) | (refine AB.mk (fun h => ?_) (fun h => ?_) <;> (conv => whnf)))
    all_goals
      refine aT (Gl h1 h2 h3 ?_)
      first
        | exact sw (by assumption)
        | (rw [oT (by assumption), sv hb]; simp_all; done)
        | (rw [oT (by assumption), ← sv hb]; simp_all; done)
end Go.Proofs.YtcmknngafflcnaaGreat
namespace Go.Proofs.YtcmknngafflcnaaGreat
open Go.ChangeShapes Go.WideShapes Go.RowKit
def mh : List (List Nat) := bA [0, 1, 129, 12354, 1056835, 1056835, 101453956, 7583830214, 1056835, 151785604, 90920957393793673, 12847112094327771333, 297472660140854125131]
def mF : List (List Nat) := bQ 10 [0, 1, 4, 13, 58846, 52690, 52933, 53662, 6520, 13081]
def kF : List (List Nat) := bA [0, 1, 0, 3, 0, 0, 6, 20934, 4347421125, 567971962978500, 181283635458248770, 181283635458248770, 813983152403580207756, 56817288236698778510155]
def kQ : List (List Nat) := bQ 12 [19674, 19675, 6488, 6497, 2024, 242, 485, 1133, 3284, 9841, 383818, 147622]
def pf : List (List Nat) := bA [0, 1, 129, 12354, 12354, 1318979, 4328796549, 486506500228, 13265141784903, 2564411225022531, 180992954169053641, 12846258869076758730, 180992954169053641, 15152101878290452682, 1044601217194554323533, 180992954169053641, 18610866392110993610, 1265962146079068942928, 61643244241572623809819474207761, 6253342968646612939663330639098508, 208670669043823421316907952234890323]
def pj : List (List Nat) := bQ 18 [0, 1, 4, 661, 67, 148, 364, 1093, 3280, 9841, 386918572, 386977621, 373573498, 374104939, 375699262, 14319382, 28668289, 71715010]
def pg : List (List Nat) := bA [0, 1, 129, 12354, 1056835, 12354, 1581123, 12354, 2105411, 484274889288, 90920957427880327, 3477390728426987781, 891283231214307909699]
def pk : List (List Nat) := bQ 10 [0, 1, 4, 58819, 58846, 17725, 17968, 2173, 4360, 9949]
theorem r6 {s c : List DMark} {l : List DEntry} (h : bL s l = some c) (k : Nat) : ∃ c', bL s (l.take k) = some c' := by
  rw [← List.take_append_drop k l, iT] at h
  cases hk : bL s (l.take k) with
  | none => rw [hk] at h; cases h
  | some c' => exact ⟨c', rfl⟩
theorem DN {s c : List DMark} {l : List DEntry} {k : Nat} (hk : k < l.length) (h : bL s (l.take (k + 1)) = some c) : bi c = l[k].index := by
  obtain ⟨c0, h0⟩ := r6 h k
  rw [List.take_take, Nat.min_eq_left (by omega)] at h0
  rw [oG hk h0] at h
  unfold cy at h
  split at h
  · rename_i hc
    injection h with h
    subst h
    simp only [Bool.and_eq_true, decide_eq_true_eq] at hc
    exact wZ (by omega)
  · cases h
theorem Fb {s : List DMark} {l : List DEntry} (hs : bw s = true) (h : (aW s l).2 = true) : l.length ≤ 2000 ∧ ∃ c, bL s l = some c := by
  unfold aW at h
  simp only [hs, Bool.not_true, Bool.false_eq_true, if_false] at h
  split at h
  · cases h
  · rename_i hl
    refine ⟨by omega, ?_⟩
    cases hf : bL s l with
    | none => rw [hf] at h; cases h
    | some c => exact ⟨c, rfl⟩
theorem Av {n : DLogNode} (hb : bP n.book = true) (hh : ej n.head = true) (hbb : n.book.base = n.head.base) (hso : (aW n.head.seen n.book.entries).2 = true) (h1 : n.head.base + 1 ≤ n.nxt.base) (h2 : n.nxt.base ≤ cM n.book) : ej (gW n) = true := by
  have hq := iU hh
  have hl := dC hb
  obtain ⟨hlen, c, hc⟩ := Fb hq.2.2 hso
  obtain ⟨k, hk⟩ : ∃ k : Nat, n.nxt.base = n.book.base + 1 + k := ⟨(n.nxt.base - n.book.base - 1).toNat, by omega⟩
  have hkl : k < n.book.entries.length := by unfold cM at h2; omega
  obtain ⟨c', hc'⟩ := r6 hc (k + 1)
  have e1 : (n.nxt.base - n.book.base).toNat = k + 1 := by omega
  have e2 : (n.nxt.base - n.book.base - 1).toNat = k := by omega
  have hov : aW n.head.seen (jK n.book n.nxt.base) = (c', true) := by
    unfold jK
    rw [e1]
    exact rH hq.2.2 (by simp; omega) hc'
  have hlast := DN hkl hc'
  have hidx := kw hb k hkl
  have hent := pV hb hkl
  have ht : tOk n.book.entries[k].time = true := by
    simp only [bW, Bool.and_eq_true] at hent
    simpa [tOk] using hent.1.1.1.2
  have hnum : n.head.num ≤ n.head.base := by
    simp only [ej, Bool.and_eq_true, aj, decide_eq_true_eq] at hh
    omega
  have eH : gW n = ⟨n.head.num + 1, n.nxt.base, n.book.entries[k].time, c'⟩ := by
    simp only [gW, hov, e2, List.getD_eq_getElem?_getD, List.getElem?_eq_getElem hkl, Option.getD_some]
  have hcs := jT hq.2.2 hc'
  rw [eH]
  simp only [ej, Bool.and_eq_true, aj, decide_eq_true_eq, Bool.or_eq_true, beq_iff_eq]
  exact ⟨⟨⟨⟨⟨⟨by omega, by omega⟩, by omega, by omega⟩, ht⟩, .inl (by omega)⟩, hcs⟩, by omega⟩
def zy (b : DBook) (i : Int) : DEntry := b.entries.getD (i - b.base - 1).toNat yf
theorem GR {x lo hi : Int} (h1 : lo ≤ x) (h2 : x ≤ hi) : aj x lo hi = true := by simp [aj, h1, h2]
theorem um (b : DBook) (i : Int) (hb : bP b = true) (h1 : b.base + 1 ≤ i) (h2 : i ≤ cM b) : ak av 331 [.agg b.ds, .one (dI i)] (.tup [.agg (zy b i).ds, .one (dB true)]) := by
  have hp := cp hb
  have hq := dC hb
  have hbt : (!aj i (b.base + 1) (cM b)) = false := by rw [GR h1 h2]; rfl
  have hbn : (!bP b) = false := by rw [hb]; rfl
  obtain ⟨k, hk⟩ : ∃ k : Nat, i - b.base - 1 = k := ⟨(i - b.base - 1).toNat, by omega⟩
  have hkl : k < b.entries.length := by unfold cM at h2; omega
  refine ac ah Tryz.func331 rfl Tryz.call331 Tryz.ntmps331 (congrArg Array.toList Tryz.results331) fun S => ?_; conv => whnf
  repeat' (first | (refine aw0 ?_) | ((first | refine aw1 ?_ | refine aw2 ?_ | refine aw3 ?_ | refine aw4 ?_ | refine aw5 ?_ | refine aw6 ?_ | refine aw7 ?_ | refine aw8 ?_); conv => whnf) | ((first | refine bT ?_ | refine bF ?_); conv => whnf) | (refine AWP.drawK ah 1 10 mh mF (by kernel_rfl) (by kernel_rfl) (by kernel_rfl) rfl ?_; conv => whnf) | (refine AW.i64 (by omega) (by omega) ?_; conv => whnf) | (refine AIx.at k (DEntry.ds (b.entries[k]'hkl)) hk (by simp [hkl]) ?_; conv => whnf) | (refine aa.pure (oJ b) rfl ?_; conv => whnf) | (refine ae.mk ⟨_, _, oJ b, .inl rfl, ?_⟩; conv => whnf) | (refine aa.pure (oN b hb) rfl ?_; conv => whnf) | (refine ae.mk ⟨_, _, oN b hb, .inl rfl, ?_⟩; conv => whnf) | (refine aa.pure (aC _ _ _) rfl ?_; conv => whnf) | (refine ae.mk ⟨_, _, aC _ _ _, .inl rfl, ?_⟩; conv => whnf) | (exact rr) | (refine And.intro rfl ?_; conv => whnf) | (refine AB.mk (fun h => ?_) (fun h => ?_) <;> (conv => whnf)))
  have e : zy b i = b.entries[k]'hkl := by
    have e2 : (i - b.base - 1).toNat = k := by omega
    simp only [zy, e2, List.getD_eq_getElem?_getD, List.getElem?_eq_getElem hkl, Option.getD_some]
  rw [e]; rfl
theorem sq (h : DHead) (b : DBook) (i : Int) (hs : h.seen.length ≤ 9223372036854775806) (h0 : (0 ≤ b.base ∧ b.base ≤ 2000) ∧ b.entries.length ≤ 20) (h1 : b.base ≤ i) (h2 : i ≤ cM b) : ak av 332 [.agg h.ds, .agg b.ds, .one (dI i)] (uY (aW h.seen (jK b i))) := by
  obtain ⟨k, hk⟩ : ∃ k : Nat, i - b.base = k := ⟨(i - b.base).toNat, by omega⟩
  have hkl : k ≤ b.entries.length := by unfold cM at h2; omega
  have hlb : cM b ≤ 3000 := by unfold cM; omega
  have hx : List.drop 0 (List.take k (b.entries.map DEntry.ds)) = (jK b i).map DEntry.ds := by
    have e2 : (i - b.base).toNat = k := by omega
    simp only [List.drop_zero, jK, e2, List.map_take]
  refine ac ah Tryz.func332 rfl Tryz.call332 Tryz.ntmps332 (congrArg Array.toList Tryz.results332) fun S => ?_; conv => whnf
  repeat' (first | (refine aw0 ?_) | ((first | refine aw1 ?_ | refine aw2 ?_ | refine aw3 ?_ | refine aw4 ?_ | refine aw5 ?_ | refine aw6 ?_ | refine aw7 ?_ | refine aw8 ?_); conv => whnf) | ((first | refine bT ?_ | refine bF ?_); conv => whnf) | (refine AWP.drawK ah 1 12 kF kQ (by kernel_rfl) (by kernel_rfl) (by kernel_rfl) rfl ?_; conv => whnf) | (refine AW.i64 (by omega) (by omega) ?_; conv => whnf) | (refine ⟨0, k, rfl, hk, Nat.zero_le _, (by simpa using hkl), ?_⟩; conv => whnf) | (refine br (fun x hx => by obtain ⟨y, _, rfl⟩ := List.mem_map.1 hx; rfl) ?_; conv => whnf; rw [hx]) | (refine aa.pure (i3 h.seen (jK b i) hs) rfl ?_; conv => whnf) | (refine ae.mk ⟨_, _, i3 h.seen (jK b i) hs, .inl rfl, ?_⟩; conv => whnf) | (exact rr) | (refine And.intro rfl ?_; conv => whnf) | (refine AB.mk (fun h => ?_) (fun h => ?_) <;> (conv => whnf)))
theorem oU {n : DLogNode} (hm : (!n.more) = false) (hb : bP n.book = true) (hh : ej n.head = true) (hbb : n.book.base = n.head.base) (hd : n.book.base ≤ n.durable ∧ n.durable ≤ cM n.book) (hso : (aW n.head.seen n.book.entries).2 = true)
    (h : ej n.nxt = false ∨ n.nxt.num ≠ n.head.num + 1 ∨ n.nxt.base ≤ n.head.base ∨ n.durable < n.nxt.base) : gH n = false := by
  rw [oT hm, ← Bool.not_eq_true]
  simp only [Bool.and_eq_true, aj, decide_eq_true_eq]
  rintro ⟨⟨h1, h2⟩, h3⟩
  rcases h with h | h | h | h
  · have := Av hb hh hbb hso h1 (by omega)
    rw [← h3, h] at this
    cases this
  · exact h (congrArg DHead.num h3)
  · omega
  · omega
theorem Cr {n : DLogNode} (hm : (!n.more) = false) (h1 : n.nxt.num = n.head.num + 1) (h2 : ¬ n.nxt.base ≤ n.head.base) (h3 : ¬ n.nxt.base > n.durable) : gH n = ((n.nxt.time == (zy n.book n.nxt.base).time) && decide (n.nxt.seen = (aW n.head.seen (jK n.book n.nxt.base)).1)) := by
  have hbt : aj n.nxt.base (n.head.base + 1) n.durable = true := GR (by omega) (by omega)
  rw [oT hm, hbt, Bool.true_and, Bool.eq_iff_iff]
  simp only [decide_eq_true_eq, Bool.and_eq_true, beq_iff_eq, ta, gW, zy, yf, h1, true_and]
set_option maxHeartbeats 1000000 in
theorem wV (n : DLogNode) (hb : bP n.book = true) (hh : ej n.head = true) (hbb : n.book.base = n.head.base) (hd : n.book.base ≤ n.durable ∧ n.durable ≤ cM n.book) (hso : (aW n.head.seen n.book.entries).2 = true) (hhs : n.head.seen.length ≤ 9223372036854775806) (hx : n.nxt.seen.length ≤ 9223372036854775806) : ak av 296 [.agg n.ds] (rB (gH n)) := by
  have hq := iU hh
  have hp := cp hb
  have hl := dC hb
  refine ac ah Tryz.func296 rfl Tryz.call296 Tryz.ntmps296 (congrArg Array.toList Tryz.results296) fun S => ?_; conv => whnf
  repeat' (first | (refine aw0 ?_) | ((first | refine aw1 ?_ | refine aw2 ?_ | refine aw3 ?_ | refine aw4 ?_ | refine aw5 ?_ | refine aw6 ?_ | refine aw7 ?_ | refine aw8 ?_); conv => whnf) | ((first | refine bT ?_ | refine bF ?_); conv => whnf) | (refine AW.i64 (by omega) (by omega) ?_; conv => whnf) | (refine aa.pure (fy n.nxt lE hx) rfl ?_; conv => whnf) | (refine ae.mk ⟨_, _, fy n.nxt lE hx, .inl rfl, ?_⟩; conv => whnf) | (refine aa.pure (oK n.nxt hx) rfl ?_; conv => whnf) | (refine ae.mk ⟨_, _, oK n.nxt hx, .inl rfl, ?_⟩; conv => whnf) | (exact rr) | (refine And.intro rfl ?_; conv => whnf) | (refine AB.mk (fun h => ?_) (fun h => ?_) <;> (conv => whnf)))
  · exact congrArg rB (sw h)
  all_goals first
    | (rw [oU (by assumption) hb hh hbb hd hso (.inl (by simpa using h))]; done)
    | (rw [oU (by assumption) hb hh hbb hd hso (.inr (.inl (by simpa using h)))]; done)
    | (rw [oU (by assumption) hb hh hbb hd hso (.inr (.inr (.inl (by simpa using h))))]; done)
    | (rw [oU (by assumption) hb hh hbb hd hso (.inr (.inr (.inr (by simpa using h))))]; done)
    | skip
  have hm : (!n.more) = false := by assumption
  have g1 : n.nxt.num = n.head.num + 1 := by
    have : (n.nxt.num != n.head.num + 1) = false := by assumption
    simpa using this
  have g2 : ¬ n.nxt.base ≤ n.head.base := by
    have : decide (n.nxt.base ≤ n.head.base) = false := by assumption
    simpa using this
  have g3 : ¬ n.nxt.base > n.durable := by simpa using h
  repeat' (first | (refine aw0 ?_) | ((first | refine aw1 ?_ | refine aw2 ?_ | refine aw3 ?_ | refine aw4 ?_ | refine aw5 ?_ | refine aw6 ?_ | refine aw7 ?_ | refine aw8 ?_); conv => whnf) | ((first | refine bT ?_ | refine bF ?_); conv => whnf) | (refine aa.pure (um n.book n.nxt.base hb (by omega) (by omega)) rfl ?_; conv => whnf) | (refine ae.mk ⟨_, _, um n.book n.nxt.base hb (by omega) (by omega), .inl rfl, ?_⟩; conv => whnf) | (refine aa.pure (sq n.head n.book n.nxt.base hhs ⟨hp.1, hp.2.2.1⟩ (by omega) (by omega)) rfl ?_; conv => whnf) | (refine ae.mk ⟨_, _, sq n.head n.book n.nxt.base hhs ⟨hp.1, hp.2.2.1⟩ (by omega) (by omega), .inl rfl, ?_⟩; conv => whnf) | (refine aa.pure (dO n.nxt.seen (aW n.head.seen (jK n.book n.nxt.base)).1 hx) rfl ?_; conv => whnf) | (refine ae.mk ⟨_, _, dO n.nxt.seen (aW n.head.seen (jK n.book n.nxt.base)).1 hx, .inl rfl, ?_⟩; conv => whnf) | (exact rr) | (refine And.intro rfl ?_; conv => whnf) | (refine AB.mk (fun h => ?_) (fun h => ?_) <;> (conv => whnf)))
  all_goals
    refine aT ?_
    rw [Cr hm g1 g2 g3]
    simp_all
theorem HV {a b : DTwo} : a = b ↔ (a.a = b.a ∧ a.b = b.b) := by
  cases a; cases b; simp [DTwo.mk.injEq]
theorem E4 {a b : DLogNode} : a = b ↔ (a.two.a = b.two.a ∧ a.two.b = b.two.b ∧ a.head = b.head ∧ a.nxt = b.nxt ∧ a.more = b.more ∧ a.book = b.book ∧ a.seen = b.seen ∧ a.durable = b.durable ∧ a.owe = b.owe) := by
  cases a; cases b
  simp [DLogNode.mk.injEq, HV, and_assoc]
structure mU (n : DLogNode) : Prop where
  a1 : n.two.a.kept.length ≤ 9223372036854775806
  a2 : ∀ y ∈ n.two.a.kept, y.length ≤ 9223372036854775806
  a3 : n.two.a.wait.length ≤ 9223372036854775806
  a4 : ∀ y ∈ n.two.a.wait, y.row.length ≤ 9223372036854775806
  b1 : n.two.b.kept.length ≤ 9223372036854775806
  b2 : ∀ y ∈ n.two.b.kept, y.length ≤ 9223372036854775806
  b3 : n.two.b.wait.length ≤ 9223372036854775806
  b4 : ∀ y ∈ n.two.b.wait, y.row.length ≤ 9223372036854775806
  head : n.head.seen.length ≤ 9223372036854775806
  nxt : n.nxt.seen.length ≤ 9223372036854775806
  book : n.book.entries.length ≤ 9223372036854775806
  seen : n.seen.length ≤ 9223372036854775806
  owe : n.owe.length ≤ 9223372036854775806
set_option maxHeartbeats 1000000 in
theorem ut (a b : DLogNode) (hs : mU a) : ak av 245 [.agg a.ds, .agg b.ds] (rB (decide (a = b))) := by
  refine ac ah Tryz.func245 rfl Tryz.call245 Tryz.ntmps245 (congrArg Array.toList Tryz.results245) fun S => ?_; conv => whnf
  repeat' (first | (refine aw0 ?_) | ((first | refine aw1 ?_ | refine aw2 ?_ | refine aw3 ?_ | refine aw4 ?_ | refine aw5 ?_ | refine aw6 ?_ | refine aw7 ?_ | refine aw8 ?_); conv => whnf) | ((first | refine bT ?_ | refine bF ?_); conv => whnf) | (refine aa.pure (i6 a.two.a b.two.a hs.a1 hs.a2 hs.a3 hs.a4) rfl ?_; conv => whnf) | (refine ae.mk ⟨_, _, i6 a.two.a b.two.a hs.a1 hs.a2 hs.a3 hs.a4, .inl rfl, ?_⟩; conv => whnf) | (refine aa.pure (i6 a.two.b b.two.b hs.b1 hs.b2 hs.b3 hs.b4) rfl ?_; conv => whnf) | (refine ae.mk ⟨_, _, i6 a.two.b b.two.b hs.b1 hs.b2 hs.b3 hs.b4, .inl rfl, ?_⟩; conv => whnf) | (refine aa.pure (fy a.head b.head hs.head) rfl ?_; conv => whnf) | (refine ae.mk ⟨_, _, fy a.head b.head hs.head, .inl rfl, ?_⟩; conv => whnf) | (refine aa.pure (fy a.nxt b.nxt hs.nxt) rfl ?_; conv => whnf) | (refine ae.mk ⟨_, _, fy a.nxt b.nxt hs.nxt, .inl rfl, ?_⟩; conv => whnf) | (refine aa.pure (sg a.book b.book hs.book) rfl ?_; conv => whnf) | (refine ae.mk ⟨_, _, sg a.book b.book hs.book, .inl rfl, ?_⟩; conv => whnf) | (refine aa.pure (dO a.seen b.seen hs.seen) rfl ?_; conv => whnf) | (refine ae.mk ⟨_, _, dO a.seen b.seen hs.seen, .inl rfl, ?_⟩; conv => whnf) | (refine aa.pure (o8 a.owe b.owe hs.owe) rfl ?_; conv => whnf) | (refine ae.mk ⟨_, _, o8 a.owe b.owe hs.owe, .inl rfl, ?_⟩; conv => whnf) | (exact rr) | (refine And.intro rfl ?_; conv => whnf) | (refine AB.mk (fun h => ?_) (fun h => ?_) <;> (conv => whnf)))
  all_goals
    refine aT ?_
    rw [Bool.eq_iff_iff]
    simp only [decide_eq_true_iff, E4]
    simp_all
def Ep : Prop := ∀ (b : DBook) (d : Int), bP b = true → b.base ≤ d → d ≤ cM b → ak av 298 [.agg b.ds, .one (dI d)] (.val (.one (.sl (((d5 b d).map bI).map DAck.ds))))
set_option maxHeartbeats 1000000 in
theorem zQ (how : Ep) (n : DLogNode) (hs : mU n) : ak av 243 [.agg n.ds] (rB (jZ n)) := by
  refine ac ah Tryz.func243 rfl Tryz.call243 Tryz.ntmps243 (congrArg Array.toList Tryz.results243) fun S => ?_; conv => whnf
  repeat' (first | (refine aw0 ?_) | ((first | refine aw1 ?_ | refine aw2 ?_ | refine aw3 ?_ | refine aw4 ?_ | refine aw5 ?_ | refine aw6 ?_ | refine aw7 ?_ | refine aw8 ?_); conv => whnf) | ((first | refine bT ?_ | refine bF ?_); conv => whnf) | (refine aa.pure (wR n.two) rfl ?_; conv => whnf) | (refine ae.mk ⟨_, _, wR n.two, .inl rfl, ?_⟩; conv => whnf) | (refine aa.pure (oK n.head hs.head) rfl ?_; conv => whnf) | (refine ae.mk ⟨_, _, oK n.head hs.head, .inl rfl, ?_⟩; conv => whnf) | (refine aa.pure (oJ n.book) rfl ?_; conv => whnf) | (refine ae.mk ⟨_, _, oJ n.book, .inl rfl, ?_⟩; conv => whnf) | (refine aa.pure (i3 n.head.seen n.book.entries hs.head) rfl ?_; conv => whnf) | (refine ae.mk ⟨_, _, i3 n.head.seen n.book.entries hs.head, .inl rfl, ?_⟩; conv => whnf) | (exact rr) | (refine And.intro rfl ?_; conv => whnf) | (refine AB.mk (fun h => ?_) (fun h => ?_) <;> (conv => whnf)))
  all_goals first
    | (have hno : i7 n = false := by simp_all [i7]
       rw [C2 hno]; done)
    | skip
  have h1 : i7 n = true := by simp_all [i7]
  obtain ⟨hk, hh, hb, hbb, htt⟩ := E5 h1
  have hq := iU hh
  have hp := cp hb
  have hl := dC hb
  have hsv : (aW n.head.seen n.book.entries).1.length ≤ 9223372036854775806 := Nat.le_trans (uW hq.2.2) (by decide)
  repeat' (first | (refine aw0 ?_) | ((first | refine aw1 ?_ | refine aw2 ?_ | refine aw3 ?_ | refine aw4 ?_ | refine aw5 ?_ | refine aw6 ?_ | refine aw7 ?_ | refine aw8 ?_); conv => whnf) | ((first | refine bT ?_ | refine bF ?_); conv => whnf) | (refine AWP.drawK ah 4 18 pf pj (by kernel_rfl) (by kernel_rfl) (by kernel_rfl) rfl ?_; conv => whnf) | (refine aa.pure (dO (aW n.head.seen n.book.entries).1 n.seen hsv) rfl ?_; conv => whnf) | (refine ae.mk ⟨_, _, dO (aW n.head.seen n.book.entries).1 n.seen hsv, .inl rfl, ?_⟩; conv => whnf) | (refine aa.pure (oN n.book hb) rfl ?_; conv => whnf) | (refine ae.mk ⟨_, _, oN n.book hb, .inl rfl, ?_⟩; conv => whnf) | (refine aa.pure (aC _ _ _) rfl ?_; conv => whnf) | (refine ae.mk ⟨_, _, aC _ _ _, .inl rfl, ?_⟩; conv => whnf) | (exact rr) | (refine And.intro rfl ?_; conv => whnf) | (refine AB.mk (fun h => ?_) (fun h => ?_) <;> (conv => whnf)))
  all_goals first
    | (rw [oQ (H6 h)]; done)
    | (rw [oQ (H7 h)]; done)
    | (rw [oQ (H8 h)]; done)
    | skip
  have h2 : i9 n = true := H9 (by assumption) (by assumption) (by assumption)
  have hd := ye h
  have hso : (aW n.head.seen n.book.entries).2 = true := by
    have : (!(aW n.head.seen n.book.entries).snd) = false := by assumption
    rwa [Bool.not_eq_false'] at this
  repeat' (first | (refine aw0 ?_) | ((first | refine aw1 ?_ | refine aw2 ?_ | refine aw3 ?_ | refine aw4 ?_ | refine aw5 ?_ | refine aw6 ?_ | refine aw7 ?_ | refine aw8 ?_); conv => whnf) | ((first | refine bT ?_ | refine bF ?_); conv => whnf) | (refine AWP.drawK ah 6 10 pg pk (by kernel_rfl) (by kernel_rfl) (by kernel_rfl) rfl ?_; conv => whnf) | (refine aa.pure (wV n hb hh hbb hd hso hs.head hs.nxt) rfl ?_; conv => whnf) | (refine ae.mk ⟨_, _, wV n hb hh hbb hd hso hs.head hs.nxt, .inl rfl, ?_⟩; conv => whnf) | (refine aa.pure (how n.book n.durable hb hd.1 hd.2) rfl ?_; conv => whnf) | (refine ae.mk ⟨_, _, how n.book n.durable hb hd.1 hd.2, .inl rfl, ?_⟩; conv => whnf) | (refine aa.pure (o8 n.owe ((d5 n.book n.durable).map bI) hs.owe) rfl ?_; conv => whnf) | (refine ae.mk ⟨_, _, o8 n.owe ((d5 n.book n.durable).map bI) hs.owe, .inl rfl, ?_⟩; conv => whnf) | (exact rr) | (refine And.intro rfl ?_; conv => whnf) | (refine AB.mk (fun h => ?_) (fun h => ?_) <;> (conv => whnf)))
  all_goals
    refine aT ?_
    simp only [nV, h1, h2, Bool.true_and]
    simp_all
end Go.Proofs.YtcmknngafflcnaaGreat
