/- What it says that a world is valid: plain, with no program in sight. -/
import Derived.Test.YthmckpghadfeeaaGreatWData
set_option linter.unusedVariables false
set_option linter.unusedSimpArgs false
set_option maxRecDepth 100000
namespace Go.Proofs.YthmckpghadfeeaaGreat
open Go.ChangeShapes Go.WideShapes Go.RowKit

section
variable {α : Type}
/-- By index. -/
def allN (n : Nat) (ok : Nat → Bool) : Bool := (List.range n).all ok
theorem allN_no {n k : Nat} {ok : Nat → Bool} (hk : k < n) (h : ok k = false) : allN n ok = false := by
  rw [← Bool.not_eq_true]
  intro hall
  have := List.all_eq_true.1 hall k (List.mem_range.2 hk)
  rw [h] at this
  cases this
theorem allN_yes {n : Nat} {ok : Nat → Bool} (h : ∀ k, k < n → ok k = true) : allN n ok = true :=
  List.all_eq_true.2 fun k hk => h k (List.mem_range.1 hk)
theorem allN_get {n : Nat} {ok : Nat → Bool} (h : allN n ok = true) {k : Nat} (hk : k < n) : ok k = true := List.all_eq_true.1 h k (List.mem_range.2 hk)
theorem all_no {l : List α} {p : α → Bool} {k : Nat} (hk : k < l.length) (h : p l[k] = false) : l.all p = false := by
  rw [← Bool.not_eq_true]
  intro hall
  have := List.all_eq_true.1 hall _ (List.getElem_mem hk)
  rw [h] at this
  cases this
theorem all_yes {l : List α} {p : α → Bool} (h : ∀ (k : Nat) (hk : k < l.length), p l[k] = true) : l.all p = true := by
  refine List.all_eq_true.2 fun x hx => ?_
  obtain ⟨k, hk, rfl⟩ := List.getElem_of_mem hx
  exact h k hk
theorem all_get {l : List α} {p : α → Bool} (h : l.all p = true) {k : Nat} (hk : k < l.length) : p l[k] = true := List.all_eq_true.1 h _ (List.getElem_mem hk)
/-- Each with the one before it. -/
def adjB (Q : α → α → Bool) : List α → Bool
  | x :: y :: r => Q x y && adjB Q (y :: r)
  | _ => true
theorem adjB_get {Q : α → α → Bool} : ∀ {l : List α}, adjB Q l = true → ∀ {k : Nat} (hk : k + 1 < l.length), Q (l[k]'(by omega)) l[k + 1] = true
  | x :: y :: r, h, k, hk => by
    simp only [adjB, Bool.and_eq_true] at h
    cases k with
    | zero => exact h.1
    | succ k => exact adjB_get (l := y :: r) h.2 (k := k) (by simpa using hk)
  | [], _, k, hk => by simp at hk
  | [x], _, k, hk => by simp at hk
theorem adjB_yes {Q : α → α → Bool} : ∀ {l : List α}, (∀ (k : Nat) (hk : k + 1 < l.length), Q (l[k]'(by omega)) l[k + 1] = true) → adjB Q l = true
  | x :: y :: r, h => by
    simp only [adjB, Bool.and_eq_true]
    refine ⟨h 0 (by simp), adjB_yes (l := y :: r) fun k hk => ?_⟩
    have := h (k + 1) (by simpa using hk)
    simpa using this
  | [], _ => rfl
  | [x], _ => rfl
theorem adjB_no {Q : α → α → Bool} {l : List α} {k : Nat} (hk : k + 1 < l.length) (h : Q (l[k]'(by omega)) l[k + 1] = false) : adjB Q l = false := by
  rw [← Bool.not_eq_true]
  intro hall
  rw [adjB_get hall hk] at h
  cases h
/-- No two are alike. -/
def apartAll (R : α → α → Bool) : List α → Bool
  | [] => true
  | x :: r => r.all (fun y => !R x y) && apartAll R r
theorem apartAll_get {R : α → α → Bool} : ∀ {l : List α}, apartAll R l = true → ∀ {j k : Nat} (hj : j < k) (hk : k < l.length), R (l[j]'(by omega)) l[k] = false
  | x :: r, h, j, k, hj, hk => by
    simp only [apartAll, Bool.and_eq_true] at h
    match j, k, hj with
    | 0, k + 1, _ =>
      have := all_get h.1 (k := k) (by simpa using hk)
      simpa using this
    | j + 1, k + 1, hj => exact apartAll_get (l := r) h.2 (j := j) (k := k) (by omega) (by simpa using hk)
  | [], _, j, k, _, hk => by simp at hk
theorem apartAll_yes {R : α → α → Bool} : ∀ {l : List α}, (∀ (j k : Nat) (hj : j < k) (hk : k < l.length), R (l[j]'(by omega)) l[k] = false) → apartAll R l = true
  | [], _ => rfl
  | x :: r, h => by
    simp only [apartAll, Bool.and_eq_true]
    refine ⟨all_yes fun k hk => ?_, apartAll_yes fun j k hj hk => ?_⟩
    · have := h 0 (k + 1) (by omega) (by simpa using hk)
      simpa using this
    · have := h (j + 1) (k + 1) (by omega) (by simpa using hk)
      simpa using this
theorem apartAll_no {R : α → α → Bool} {l : List α} {j k : Nat} (hj : j < k) (hk : k < l.length) (h : R (l[j]'(by omega)) l[k] = true) : apartAll R l = false := by
  rw [← Bool.not_eq_true]
  intro hall
  rw [apartAll_get hall hj hk] at h
  cases h
end

def tOk (t : Int) : Bool := betweenB t 0 1000000
def rowOk (l : List Int) : Bool := decide (l.length ≤ 48) && l.all fun x => betweenB x 0 1000000000
def writeOk (n : Nat) (x : DWrite) : Bool := betweenB x.at_ 0 ((n : Int) - 1) && rowOk x.row
def diskOk (d : DDisk) : Bool := decide (1 ≤ d.kept.length) && decide (d.kept.length ≤ 40) && decide (d.wait.length ≤ 60) && d.kept.all rowOk && d.wait.all (writeOk d.kept.length)
def twoOk (t : DTwo) : Bool := diskOk t.a && diskOk t.b && decide (t.a.kept.length = t.b.kept.length)
def apartB (a b : Int) : Bool := betweenB a 0 5 && betweenB b 0 5 && a != b
def msgOk (m : DMsg) : Bool := apartB m.frm m.to_ && decide (0 < m.row.length) && rowOk m.row
def linkLess (x y : DLink) : Bool := decide (x.a < y.a) || (x.a == y.a && decide (x.b < y.b))
def linkOk (x : DLink) : Bool := apartB x.a x.b && decide (x.a ≤ x.b)
def netOk (n : DNet) : Bool := decide (n.flight.length ≤ 60) && decide (n.cuts.length ≤ 15) && n.flight.all msgOk && n.cuts.all linkOk && adjB linkLess n.cuts
def clocksOk (l : List Int) : Bool := decide (l.length = 6) && l.all tOk
def nextE (x y : DEntry) : Bool := y.index == x.index + 1 && decide (x.time ≤ y.time)
def entriesOk (l : List DEntry) : Bool := decide (l.length ≤ 2000) && l.all entryOk && adjB nextE l
def bookOk (b : DBook) : Bool := betweenB b.base 0 2000 && tOk b.time && !(b.base == 0 && b.time != 0) && decide (b.entries.length ≤ 20) && entriesOk b.entries && (match b.entries with | [] => true | e :: _ => e.index == b.base + 1 && decide (b.time ≤ e.time))
def markOk (m : DMark) : Bool := betweenB m.client 2 5 && betweenB m.seq 1 2000 && betweenB m.index 1 2000
def markLt (x y : DMark) : Bool := decide (x.client < y.client)
def markEq (x y : DMark) : Bool := x.index == y.index
def seenOk (s : List DMark) : Bool := s.all markOk && adjB markLt s && apartAll markEq s
def markOfL (s : List DMark) (c : Int) : DMark := (s.find? fun m => m.client == c).getD ⟨0, 0, 0⟩
def lastSeenL : List DMark → Int := List.foldl (fun x m => if m.index > x then m.index else x) 0
def freshB (s : List DMark) (e : DEntry) : Bool := decide ((markOfL s e.client).seq < e.seq)
def DEntry.mark (e : DEntry) : DMark := ⟨e.client, e.seq, e.index⟩
def putMark (s : List DMark) (m : DMark) : List DMark := s.filter (fun x => decide (x.client < m.client)) ++ m :: s.filter (fun x => decide (m.client < x.client))
def markedO (s : List DMark) (e : DEntry) : Option (List DMark) := if entryOk e && freshB s e && decide (lastSeenL s < e.index) then some (putMark s e.mark) else none
def seenFold : List DMark → List DEntry → Option (List DMark)
  | s, [] => some s
  | s, e :: r => match markedO s e with
    | some s' => seenFold s' r
    | none => none
def seenOver (s : List DMark) (l : List DEntry) : List DMark × Bool :=
  if !seenOk s then ([], false) else if 2000 < l.length then (s, false) else match seenFold s l with | some o => (o, true) | none => (s, false)
def headOk (h : DHead) : Bool := betweenB h.base 0 2000 && betweenB h.num 0 h.base && tOk h.time && (decide (0 < h.base) || h.time == 0) && seenOk h.seen && lastSeenL h.seen == h.base
def keptOk (t : DTwo) : Bool := twoOk t && decide (t.a.kept.length = 22)
def lastB (b : DBook) : Int := b.base + b.entries.length
def head0 : DHead := ⟨0, 0, 0, []⟩
def ackOf (e : DEntry) : DAck := if entryOk e then ⟨e.client, e.seq, e.index, e.seq⟩ else ⟨0, 0, 0, 0⟩
def entAfter (b : DBook) (d : Int) : List DEntry := b.entries.filter fun e => decide (d + 1 ≤ e.index)
def entTo (b : DBook) (i : Int) : List DEntry := b.entries.take (i - b.base).toNat
def nextHead (n : DLogNode) : DHead := ⟨n.head.num + 1, n.nxt.base, (n.book.entries.getD (n.nxt.base - n.book.base - 1).toNat ⟨0, 0, 0, 0, ⟨0, 0, 0, 0, 0⟩⟩).time, (seenOver n.head.seen (entTo n.book n.nxt.base)).1⟩
def nextOkB (n : DLogNode) : Bool := if n.more then betweenB n.nxt.base (n.head.base + 1) n.durable && n.nxt == nextHead n else n.nxt == head0
def logOk (n : DLogNode) : Bool := keptOk n.two && headOk n.head && bookOk n.book && n.book.base == n.head.base && n.book.time == n.head.time && seenOver n.head.seen n.book.entries == (n.seen, true) && betweenB n.durable n.book.base (lastB n.book) && n.owe == (entAfter n.book n.durable).map ackOf && nextOkB n
def logDown (n : DLogNode) : Bool := twoOk n.two && n == ⟨n.two, head0, head0, false, ⟨0, 0, []⟩, [], 0, []⟩
def pairOk (p : DPair) : Bool := betweenB p.key 0 9 && betweenB p.value 0 999
def pairLt (x y : DPair) : Bool := decide (x.key < y.key)
def pairsOk (l : List DPair) : Bool := l.all pairOk && adjB pairLt l
def jobOk (j : DJob) : Bool := betweenB j.id 1 20 && tOk j.due && betweenB j.key 0 9 && betweenB j.value 0 999 && betweenB j.fired 0 2000
def jobLt (x y : DJob) : Bool := decide (x.id < y.id)
def jobEq (x y : DJob) : Bool := y.fired != 0 && x.fired == y.fired
def jobsOk (l : List DJob) : Bool := decide (l.length ≤ 8) && l.all jobOk && adjB jobLt l && apartAll jobEq l
def schedIs (x : Int) : Bool := x == 2 || x == 3
def leaseOk (l : DLease) : Bool := l == ⟨0, 0, 0⟩ || (schedIs l.holder && betweenB l.epoch 1 1000 && betweenB l.til 1 1001000)
def stateOk (s : DState) : Bool := betweenB s.index 0 2000 && tOk s.time && pairsOk s.pairs && jobsOk s.jobs && leaseOk s.lease && s.jobs.all fun j => decide (j.fired ≤ s.index)
def shelfOk (d : DDisk) : Bool := diskOk d && decide (d.kept.length = 8)
def storeOk (s : DStore) : Bool := shelfOk s.disk && stateOk s.state && betweenB s.num 0 1000000000 && betweenB s.last 0 s.state.index && ((s.num == 0) == (s.last == 0)) && (s.busy == 0 || (decide (s.num < 1000000000) && decide (s.last < s.busy) && decide (s.busy ≤ s.state.index)))
def state0 : DState := ⟨0, 0, [], [], ⟨0, 0, 0⟩⟩
def storeDown (s : DStore) : Bool := diskOk s.disk && s == ⟨s.disk, state0, 0, 0, 0⟩
def dueOk (d : DDue) : Bool := betweenB d.id 1 20 && tOk d.due
def dueLt (x y : DDue) : Bool := decide (x.due < y.due) || (x.due == y.due && decide (x.id < y.id))
def dueEq (x y : DDue) : Bool := x.id == y.id
def jobs2Ok (j : DJobs) : Bool := betweenB j.index 0 2000 && tOk j.time && (j.holder == 0 || schedIs j.holder) && betweenB j.epoch 0 1000 && betweenB j.til 0 1001000 && decide (j.opens.length ≤ 8) && j.opens.all dueOk && adjB dueLt j.opens && apartAll dueEq j.opens
def op0 : DOp := ⟨0, 0, 0, 0, 0⟩
def schedOkB (s : DSched) : Bool := schedIs s.id && betweenB s.seq 0 2000 && jobs2Ok s.view.jobs && betweenB s.index 0 2000 && (if s.busy then s.seq != 0 && opOk s.op && (s.op.kind == 4 || s.op.kind == 5) else s.op == op0)
def sched0 (id : Int) : DSched := ⟨id, 0, ⟨⟨0, 0, 0, 0, 0, []⟩⟩, false, op0, 0⟩
def schedFits (s : DSched) (id : Int) (up : Bool) : Bool := schedOkB s && s.id == id && (up || s == sched0 id)
def gotOk (w : DWant) (g : DGot) (seq last : Int) : Bool := g.seq == seq && betweenB g.index last 2000 && (if w.kind == 4 then (g.has == 0 && g.value == 0) || (g.has == 1 && betweenB g.value 0 999) else decide (last < g.index) && g.has == 0 && g.value == 0)
def lastAt (gs : List DGot) (k : Nat) : Int := match k with | 0 => 0 | j + 1 => (gs.getD j ⟨0, 0, 0, 0⟩).index
def clientOk (c : DClient) : Bool := (c.id == 4 || c.id == 5) && c.todo.all wantOk && decide (c.todo.length ≤ 12) && decide (c.gots.length ≤ c.todo.length) && allN c.gots.length (fun k => gotOk (c.todo.getD k ⟨0, op0, 0⟩) (c.gots.getD k ⟨0, 0, 0, 0⟩) ((k : Int) + 1) (lastAt c.gots k)) && c.last == lastAt c.gots c.gots.length
def upAt (w : DWorld) (k : Nat) : Bool := w.up.getD k false
def worldOk (w : DWorld) : Bool := clocksOk w.clocks && decide (w.up.length = 6) && netOk w.net && upAt w 4 && upAt w 5 && clientOk w.ann && w.ann.id == 4 && clientOk w.bob && w.bob.id == 5 && schedFits w.left 2 (upAt w 2) && schedFits w.right 3 (upAt w 3) && (if upAt w 0 then logOk w.log else logDown w.log) && (if upAt w 1 then storeOk w.store else storeDown w.store)
end Go.Proofs.YthmckpghadfeeaaGreat
