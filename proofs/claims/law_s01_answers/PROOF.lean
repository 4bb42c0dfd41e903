import PyProof.Rows.All
import Wide.All
import OpenK.AllK
import Wide.FinOn
import Open.SpecLaws
import KE.OsGo
import HandS.ForSpec
import HandS.Comp
import HandS.Iter
import HandS.Flt
import HandS.Evl
import HandS.Steps
import KE.SortData
import PyProof.AutoSeq1
import HandS.Head4
import HandS.HeadHook2
import PyVbkvad
import PySem.Challenge.RW_timestampservice_s01_answers
set_option Elab.async false
set_option maxRecDepth 100000
set_option maxHeartbeats 2000000
set_option linter.unusedVariables false
set_option linter.all false
/-! The mirror of the program: each def as a total function over plain records and lists. -/
namespace Tz
/-- a message, a reply, an event: kind, client, boot, nonce, timestamp -/
structure M5 where
  k : Int
  c : Int
  b : Int
  n : Int
  s : Int
  deriving DecidableEq, Inhabited
/-- a row of the trace: kind, life, client, boot, nonce, timestamp -/
structure M6 where
  k : Int
  l : Int
  c : Int
  b : Int
  n : Int
  s : Int
  deriving DecidableEq, Inhabited
def M5.row (m : M5) : List Int := [m.k, m.c, m.b, m.n, m.s]
def M6.row (m : M6) : List Int := [m.k, m.l, m.c, m.b, m.n, m.s]
/-! ### disk -/
structure MDisk where
  forced : Int
  unf : List Int
def MDisk.current (d : MDisk) : Int := d.unf.getLast?.getD d.forced
def MDisk.write (d : MDisk) (x : Int) : MDisk := { d with unf := d.unf ++ [x] }
def MDisk.force (d : MDisk) : MDisk := ⟨d.current, []⟩
def MDisk.crash (d : MDisk) (kept : Int) : MDisk :=
  let v : Int := if (d.unf.length : Int) < kept then (d.unf.length : Int) else kept
  if 0 < v then ⟨(d.unf[(v - 1).toNat]?).getD d.forced, []⟩ else ⟨d.forced, []⟩
def MDisk.held (d : MDisk) : List Int := d.forced :: d.unf
/-! ### service -/
structure MSrv where
  up : Bool
  disk : MDisk
  next : Int
  outbox : List M5
  life : Int
def MSrv.fresh : MSrv := ⟨true, ⟨1, []⟩, 1, [], 0⟩
def MSrv.wrote (s : MSrv) (reserve : Int) : MSrv := if s.next < s.disk.current then s else { s with disk := s.disk.write (s.next + reserve) }
def MSrv.wroteRows (s : MSrv) (reserve : Int) : List M6 := if s.next < s.disk.current then [] else [⟨1, s.life, 0, 0, 0, s.next + reserve⟩]
def MSrv.serve (s : MSrv) (m : M5) (reserve : Int) : MSrv :=
  let e := s.wrote reserve
  { e with outbox := e.outbox ++ [⟨1, m.c, m.b, m.n, e.next⟩], next := e.next + 1 }
def MSrv.serveRows (s : MSrv) (m : M5) (reserve : Int) : List M6 := s.wroteRows reserve ++ [⟨2, s.life, m.c, m.b, m.n, s.next⟩]
def MSrv.force (s : MSrv) : MSrv := { s with disk := s.disk.force, outbox := [] }
def MSrv.forceRows (s : MSrv) : List M6 := s.outbox.map fun r => ⟨3, s.life, r.c, r.b, r.n, r.s⟩
def MSrv.crash (s : MSrv) (kept : Int) : MSrv := { s with disk := s.disk.crash kept, outbox := [], up := false }
def MSrv.crashRow (s : MSrv) (kept : Int) : M6 := ⟨5, s.life, 0, 0, 0, (s.disk.crash kept).current⟩
def MSrv.restart (s : MSrv) : MSrv := { s with up := true, life := s.life + 1, next := s.disk.current }
def MSrv.restartRow (s : MSrv) : M6 := ⟨6, s.life + 1, 0, 0, 0, s.disk.current⟩
/-! ### a client -/
structure MParty where
  up : Bool
  waiting : Bool
  boot : Int
  nonce : Int
  received : List Int
  deriving Inhabited
def MParty.fresh : MParty := ⟨true, false, 0, 0, []⟩
def MParty.ask (p : MParty) : MParty := { p with nonce := p.nonce + 1, waiting := true }
def MParty.accepts (p : MParty) (boot nonce : Int) : Bool := p.up && (p.waiting && (decide (p.boot = boot) && decide (p.nonce = nonce)))
def MParty.receive (p : MParty) (stamp : Int) : MParty := { p with received := p.received ++ [stamp], waiting := false }
def MParty.crash (p : MParty) : MParty := { p with up := false, waiting := false }
def MParty.restart (p : MParty) : MParty := { p with up := true, boot := p.boot + 1, nonce := 0 }
def MParty.last (p : MParty) : Int := p.received.getLast?.getD 0
/-! ### a world -/
structure MWorld where
  reserve : Int
  srv : MSrv
  parties : List MParty
  net : List M5
  trace : List M6
def MWorld.fresh (reserve many : Int) : MWorld := ⟨reserve, .fresh, List.replicate many.toNat .fresh, [], []⟩
def MWorld.party (w : MWorld) (c : Int) : MParty := (w.parties[(c - 1).toNat]?).getD default
def MWorld.setParty (w : MWorld) (c : Int) (p : MParty) : MWorld := { w with parties := w.parties.set (c - 1).toNat p }
def MWorld.sendRequest (w : MWorld) (c : Int) : MWorld := { w with net := w.net ++ [⟨0, c, (w.party c).boot, (w.party c).nonce, 0⟩] }
def MWorld.sendAns (w : MWorld) (c : Int) : List Int := [(w.party c).boot, (w.party c).nonce]
def MWorld.asked (w : MWorld) (c : Int) : MWorld :=
  let p := (w.party c).ask
  { w with parties := w.parties.set (c - 1).toNat p, trace := w.trace ++ [⟨0, 0, c, p.boot, p.nonce, 0⟩] }
def MWorld.makeRequest (w : MWorld) (c : Int) : MWorld := (w.asked c).sendRequest c
def MWorld.makeAns (w : MWorld) (c : Int) : List Int := (w.asked c).sendAns c
def MWorld.arriveRequest (w : MWorld) (m : M5) : MWorld :=
  if w.srv.up = true then { w with srv := w.srv.serve m w.reserve, trace := w.trace ++ w.srv.serveRows m w.reserve } else w
def MWorld.arriveRequestAns (w : MWorld) : List Int := if w.srv.up = true then [1, w.srv.next] else [0, 0]
def MWorld.arriveReply (w : MWorld) (m : M5) : MWorld :=
  if (w.party m.c).accepts m.b m.n = true then
    { w with parties := w.parties.set (m.c - 1).toNat ((w.party m.c).receive m.s), trace := w.trace ++ [⟨4, 0, m.c, m.b, m.n, m.s⟩] }
  else w
def MWorld.arriveReplyAns (w : MWorld) (m : M5) : List Int := if (w.party m.c).accepts m.b m.n = true then [2, m.s] else [0, 0]
def MWorld.arrive (w : MWorld) (m : M5) : MWorld := if m.k = 0 then w.arriveRequest m else w.arriveReply m
def MWorld.arriveAns (w : MWorld) (m : M5) : List Int := if m.k = 0 then w.arriveRequestAns else w.arriveReplyAns m
def MWorld.force (w : MWorld) : MWorld := { w with srv := w.srv.force, trace := w.trace ++ w.srv.forceRows, net := w.net ++ w.srv.outbox }
def MWorld.crashService (w : MWorld) (kept : Int) : MWorld := { w with srv := w.srv.crash kept, trace := w.trace ++ [w.srv.crashRow kept] }
def MWorld.restartService (w : MWorld) : MWorld := { w with srv := w.srv.restart, trace := w.trace ++ [w.srv.restartRow] }
def MWorld.forcedIf (w : MWorld) : MWorld := if w.srv.up = true then w.force else w
def MWorld.emptied (w : MWorld) : MWorld := { w with net := [] }
def MWorld.calmRound (w : MWorld) : MWorld := w.forcedIf.net.foldl MWorld.arrive w.forcedIf.emptied
def MWorld.calmly : Nat → MWorld → MWorld
  | 0, w => w
  | n + 1, w => (MWorld.calmly n w).calmRound
/-! ### changes -/
def MWorld.has (w : MWorld) (c : Int) : Bool := decide (1 ≤ c) && decide (c ≤ (w.parties.length : Int))
def MWorld.ask (w : MWorld) (op c : Int) : MWorld × List Int :=
  if w.has c = false then (w, [-3])
  else if (w.party c).up = false then (w, [-4])
  else if op = 2 then (if (w.party c).waiting = true then (w, [-5]) else (w.makeRequest c, w.makeAns c))
  else if (w.party c).waiting = false then (w, [-5]) else (w.sendRequest c, w.sendAns c)
def MWorld.turnClient (w : MWorld) (op c : Int) : MWorld × List Int :=
  if w.has c = false then (w, [-3])
  else if op = 10 then (if (w.party c).up = false then (w, [-4]) else (w.setParty c (w.party c).crash, [(w.party c).boot]))
  else if (w.party c).up = true then (w, [-4]) else (w.setParty c (w.party c).restart, [(w.party c).boot + 1])
def MWorld.took (w : MWorld) (i : Nat) : MWorld := { w with net := w.net.eraseIdx i }
def MWorld.moveMessage (w : MWorld) (op i : Int) : MWorld × List Int :=
  if (w.net.length : Int) ≤ i then (w, [-3])
  else
    let m := (w.net[i.toNat]?).getD default
    if op = 4 then ((w.took i.toNat).arrive m, (w.took i.toNat).arriveAns m)
    else if op = 5 then (w.took i.toNat, [((w.took i.toNat).net.length : Int)])
    else ({ w with net := w.net ++ [m] }, [((w.net ++ [m]).length : Int)])
def MWorld.turnService (w : MWorld) (op kept : Int) : MWorld × List Int :=
  if op = 9 then (if w.srv.up = true then (w, [-4]) else (w.restartService, [w.srv.disk.current]))
  else if w.srv.up = false then (w, [-4])
  else if op = 7 then (w.force, [(w.srv.outbox.length : Int)])
  else (w.crashService kept, [(w.srv.disk.crash kept).current])
def MWorld.calm (w : MWorld) (rounds : Int) : MWorld × List Int := (w.calmly rounds.toNat, [((w.calmly rounds.toNat).net.length : Int)])
def MWorld.change (w : MWorld) (op second : Int) : MWorld × List Int :=
  if op = 2 ∨ op = 3 then w.ask op second
  else if op = 4 ∨ op = 5 ∨ op = 6 then w.moveMessage op second
  else if op = 7 ∨ op = 8 ∨ op = 9 then w.turnService op second
  else if op = 10 ∨ op = 11 then w.turnClient op second
  else w.calm second
def isStep (op a : Int) : Bool :=
  if op < 2 ∨ 12 < op ∨ a < 0 then false
  else if op = 7 ∨ op = 9 then decide (a = 0)
  else if op = 12 then decide (a ≤ 20) else true
/-- the pairs (operation, argument) of a list of steps -/
def pairsOf : List Int → List (Int × Int)
  | c :: a :: r => (c + 2, a) :: pairsOf r
  | _ => []
def isStepList (steps : List Int) : Bool := decide (steps.length % 2 = 0) && (decide (steps.length ≤ 1400) && (pairsOf steps).all fun p => isStep p.1 p.2)
/-- the world, how many were performed, how many refused -/
def stepOn (x : MWorld × Int × Int) (p : Int × Int) : MWorld × Int × Int :=
  let r := x.1.change p.1 p.2
  if r.2.headD 0 < 0 then (r.1, x.2.1, x.2.2 + 1) else (r.1, x.2.1 + 1, x.2.2)
def MWorld.runSteps (w : MWorld) (steps : List Int) : MWorld × List Int :=
  if isStepList steps = false then (w, [-6])
  else
    let r := (pairsOf steps).foldl stepOn (w, 0, 0)
    (r.1, [r.2.1, r.2.2])
/-! ### looks -/
def truth (b : Bool) : Int := if b = true then 1 else 0
def page (rows : List (List Int)) (first : Int) : List Int :=
  let total : Int := rows.length
  let shown : Int := if first < total then (if total - first < 50 then total - first else 50) else 0
  [total, shown] ++ ((rows.drop first.toNat).take shown.toNat).flatten
def MWorld.serviceAns (w : MWorld) : List Int :=
  [truth w.srv.up, if w.srv.up = true then w.srv.next else 0, w.srv.disk.forced, w.srv.disk.current, (w.srv.outbox.length : Int), w.srv.life, w.reserve, (w.parties.length : Int)]
def MWorld.clientAns (w : MWorld) (c : Int) : List Int :=
  if c < 1 ∨ (w.parties.length : Int) < c then [-3]
  else
    let p := w.party c
    [truth p.up, p.boot, p.nonce, truth p.waiting, (p.received.length : Int), p.last]
def histOf (r : M6) : Option M5 := if r.k = 0 then some ⟨0, r.c, r.b, r.n, 0⟩ else if r.k = 4 then some ⟨1, r.c, r.b, r.n, r.s⟩ else none
def MWorld.history (w : MWorld) : List M5 := w.trace.filterMap histOf
/-- a receipt as it is sorted: timestamp, client, boot, nonce -/
structure M4 where
  s : Int
  c : Int
  b : Int
  n : Int
  deriving DecidableEq, Inhabited
def turnedOf (r : M6) : Option M4 := if r.k = 4 then some ⟨r.s, r.c, r.b, r.n⟩ else none
def M4.le (x y : M4) : Bool :=
  decide (x.s < y.s) || (decide (x.s = y.s) && (decide (x.c < y.c) || (decide (x.c = y.c) && (decide (x.b < y.b) || (decide (x.b = y.b) && decide (x.n ≤ y.n))))))
def M4.row (r : M4) : List Int := [r.c, r.b, r.n, r.s]
def MWorld.order (w : MWorld) : List M4 := (w.trace.filterMap turnedOf).mergeSort M4.le
/-- the counts of the kinds 0 to 6, the highest timestamp sent -/
def statOn (x : List Int × Int) (r : M6) : List Int × Int :=
  (x.1.set r.k.toNat ((x.1[r.k.toNat]?).getD 0 + 1), if r.k = 3 then (if x.2 < r.s then r.s else x.2) else x.2)
def MWorld.statistics (w : MWorld) : List Int :=
  let x := w.trace.foldl statOn (List.replicate 7 0, 0)
  x.1 ++ [x.2]
def MWorld.restartValues (w : MWorld) : List Int := (w.srv.disk.held.length : Int) :: w.srv.disk.held
def MWorld.rowsOf (w : MWorld) (op : Int) : List (List Int) :=
  if op = 16 then w.net.map M5.row
  else if op = 17 then w.srv.outbox.map M5.row
  else if op = 18 then w.trace.map M6.row
  else if op = 19 then w.history.map M5.row
  else w.order.map M4.row
def MWorld.look (w : MWorld) (op second : Int) : List Int :=
  if op = 14 then w.serviceAns
  else if op = 15 then w.clientAns second
  else if 16 ≤ op ∧ op ≤ 20 then page (w.rowsOf op) second
  else if op = 21 then w.statistics
  else w.restartValues
/-! ### histories and the judge -/
def isEvent (k c b n s : Int) : Bool :=
  if k ≠ 0 ∧ k ≠ 1 then false
  else if c < 1 ∨ 8 < c then false
  else if (b < 0 ∨ n < 0 ∨ s < 0) ∨ (1000000000 < b ∨ 1000000000 < n ∨ 1000000000 < s) then false
  else decide (k = 1) || decide (s = 0)
/-- the fives of a list -/
def fives : List Int → List M5
  | k :: c :: b :: n :: s :: r => ⟨k, c, b, n, s⟩ :: fives r
  | _ => []
def M5.ok (e : M5) : Bool := isEvent e.k e.c e.b e.n e.s
def isEventList (l : List Int) : Bool := decide (l.length % 5 = 0) && (fives l).all M5.ok
def lastRequest (es : List M5) (c : Int) : Nat → Int
  | 0 => -1
  | i + 1 => match es[i]? with
    | some e => if e.k = 0 ∧ e.c = c then (i : Int) else lastRequest es c i
    | none => lastRequest es c i
def isReceiptOf (c : Int) (e : M5) : Bool := decide (e.k = 1) && decide (e.c = c)
def isReceiptAt (s : Int) (e : M5) : Bool := decide (e.k = 1) && decide (e.s = s)
def isUnanswered (es : List M5) (at' last : Nat) : Bool :=
  let c := ((es[last]?).getD default).c
  !((es.take at').drop (last + 1)).any (isReceiptOf c)
def wasReceived (es : List M5) (at' : Nat) (s : Int) : Bool := (es.take at').any (isReceiptAt s)
def highOn (h : Int) (e : M5) : Int := if e.k = 1 then (if h < e.s then e.s else h) else h
def highestReceived (es : List M5) (at' : Nat) : Int := (es.take at').foldl highOn 0
def isRightRequest (es : List M5) (at' : Nat) : Bool :=
  let e := (es[at']?).getD default
  let last := lastRequest es e.c at'
  if last < 0 then decide (e.n = 1)
  else
    let o := (es[last.toNat]?).getD default
    if o.b < e.b then decide (e.n = 1)
    else if e.b < o.b then false
    else !isUnanswered es at' last.toNat && decide (e.n = o.n + 1)
def faultOfReceipt (es : List M5) (at' : Nat) : Int :=
  let e := (es[at']?).getD default
  let last := lastRequest es e.c at'
  if last < 0 then 2
  else if isUnanswered es at' last.toNat = false then 2
  else
    let o := (es[last.toNat]?).getD default
    if o.b ≠ e.b ∨ o.n ≠ e.n then 2
    else if wasReceived es at' e.s = true then 3
    else if e.s ≤ 0 ∨ e.s ≤ highestReceived es last.toNat then 4 else 0
def faultOf (es : List M5) (at' : Nat) : Int :=
  if ((es[at']?).getD default).k = 1 then faultOfReceipt es at'
  else if isRightRequest es at' = true then 0 else 1
/-- from the place at' on, so many places -/
def verdictFrom (es : List M5) : Nat → Nat → List Int
  | at', 0 => [0, (at' : Int)]
  | at', m + 1 => if faultOf es at' ≠ 0 then [faultOf es at', (at' : Int)] else verdictFrom es (at' + 1) m
def verdict (es : List M5) : List Int := verdictFrom es 0 es.length
def judge (l : List Int) : List Int := if 300 < l.length ∨ isEventList l = false then [-6] else verdict (fives l)
/-! ### the scheduler -/
structure MPlan where
  steps : List Int
  boots : List Int
  next : Int
  pending : List Int
def MPlan.fresh : MPlan := ⟨[], List.replicate 9 0, 1, []⟩
def MPlan.step (p : MPlan) (code a : Int) : MPlan := { p with steps := p.steps ++ [code, a] }
def MPlan.boot (p : MPlan) (c : Int) : Int := (p.boots[c.toNat]?).getD 0
def MPlan.upBy (c : Int) : Nat → MPlan → MPlan
  | 0, p => p
  | n + 1, p => ((MPlan.upBy c n p).step 8 c).step 9 c
def MPlan.bootUp (p : MPlan) (c b : Int) : MPlan :=
  let q := MPlan.upBy c (b - p.boot c).toNat p
  { q with boots := q.boots.set c.toNat b }
def MPlan.planRequest (p : MPlan) (c b : Int) : MPlan :=
  let q := (p.bootUp c b).step 0 c
  q.step 3 q.pending.length
def MPlan.makeStamp (p : MPlan) (c : Int) : MPlan := ((p.step 1 c).step 2 p.pending.length).step 5 0
def MPlan.planPending (p : MPlan) (s : Int) : MPlan :=
  let i := p.pending.idxOf s
  { p.step 2 i with pending := p.pending.eraseIdx i }
def MPlan.passStamp (p : MPlan) (s owner c : Int) : MPlan :=
  if owner ≠ 0 then { p.makeStamp owner with pending := p.pending ++ [s] }
  else (p.makeStamp c).step 3 p.pending.length
def ownerOf : List M5 → Int → Int
  | [], _ => 0
  | e :: r, s => if e.k = 1 ∧ e.s = s then e.c else ownerOf r s
/-- so many timestamps from the plan's next on are passed -/
def MPlan.passBy (es : List M5) (c from' : Int) : Nat → MPlan → MPlan
  | 0, p => p
  | n + 1, p => (MPlan.passBy es c from' n p).passStamp (from' + n) (ownerOf es (from' + n)) c
def MPlan.planNew (p : MPlan) (es : List M5) (c s : Int) : MPlan :=
  let q := (MPlan.passBy es c p.next (s - p.next).toNat p).makeStamp c
  { q.step 2 q.pending.length with next := s + 1 }
def isTooLarge (es : List M5) : Bool := es.any fun e => decide (10 < e.b) || decide (100 < e.s)
def planOn (es : List M5) (p : MPlan) (e : M5) : MPlan :=
  if e.k = 0 then p.planRequest e.c e.b
  else if e.s < p.next then p.planPending e.s else p.planNew es e.c e.s
def planned (es : List M5) : List Int := (es.foldl (planOn es) MPlan.fresh).steps
def schedule (l : List Int) : List Int :=
  if 200 < l.length ∨ isEventList l = false then [-6]
  else
    let es := fives l
    if (verdict es).headD 0 ≠ 0 then [-7]
    else if isTooLarge es = true then [-8]
    else ((planned es).length / 2 : Int) :: planned es
/-! ### the places, the calls -/
abbrev MState := List (Option MWorld)
def isPlace (n : Int) : Bool := decide (0 ≤ n) && decide (n < 4)
def openWorld (st : MState) (at' reserve many : Int) : MState × List Int :=
  if isPlace at' = false ∨ reserve < 1 ∨ 20 < reserve then (st, [-1])
  else if many < 1 ∨ 8 < many then (st, [-1])
  else (st.set at'.toNat (some (.fresh reserve many)), [0])
def stAt (st : MState) (i : Int) : Option MWorld := (st[i.toNat]?).getD none
def copyWorld (st : MState) (source target : Int) : MState × List Int :=
  if isPlace source = false ∨ isPlace target = false then (st, [-1])
  else match stAt st source with
    | none => (st, [-2])
    | some w => (st.set target.toNat (some w), [0])
def isSecondOut (op second : Int) : Bool := decide (second < 0) || (decide (op = 12) && decide (20 < second))
def inWorld (st : MState) (op at' second : Int) (row : List Int) : MState × List Int :=
  if isPlace at' = false ∨ isSecondOut op second = true then (st, [-1])
  else match stAt st at' with
    | none => (st, [-2])
    | some w =>
      if op < 13 then (st.set at'.toNat (some (w.change op second).1), (w.change op second).2)
      else if op = 13 then (st.set at'.toNat (some (w.runSteps row).1), (w.runSteps row).2)
      else (st, w.look op second)
def answerOf (st : MState) (op : Int) (numbers row : List Int) : MState × List Int :=
  if op = 0 then openWorld st ((numbers[0]?).getD 0) ((numbers[1]?).getD 0) ((numbers[2]?).getD 0)
  else if op = 1 then copyWorld st ((numbers[0]?).getD 0) ((numbers[1]?).getD 0)
  else if op = 23 then (st, judge row)
  else if op = 24 then (st, schedule row)
  else inWorld st op ((numbers[0]?).getD 0) (if 1 < numbers.length then (numbers[1]?).getD 0 else 0) row
end Tz
/-! Sizes and ranges in a world of the mirror. -/
namespace Tz
/-- what a message can still add to the trace -/
def wt (e : M5) : Nat := if e.k = 0 then 4 else 1
def wts (l : List M5) : Nat := (l.map wt).sum
def phi (m : MWorld) : Nat := m.trace.length + wts m.net + 2 * m.srv.outbox.length
/-- a client of a message is there -/
def inR (n : Nat) (e : M5) : Prop := 1 ≤ e.c ∧ e.c ≤ (n : Int)
structure Good (N : Nat) (m : MWorld) : Prop where
  phi : phi m ≤ N
  unf : m.srv.disk.unf.length ≤ m.trace.length
  rcv : ∀ p ∈ m.parties, p.received.length ≤ m.trace.length
  net : ∀ e ∈ m.net, inR m.parties.length e
  out : ∀ e ∈ m.srv.outbox, e.k = 1 ∧ inR m.parties.length e
theorem Good.mono {N N' : Nat} {m : MWorld} (g : Good N m) (h : N ≤ N') : Good N' m := ⟨Nat.le_trans g.phi h, g.unf, g.rcv, g.net, g.out⟩
theorem wt_pos (e : M5) : 1 ≤ wt e := by
  unfold wt
  split <;> omega
theorem wt_le (e : M5) : wt e ≤ 4 := by
  unfold wt
  split <;> omega
theorem wts_len (l : List M5) : l.length ≤ wts l := by
  induction l with
  | nil => exact Nat.zero_le _
  | cons e r ih =>
    have := wt_pos e
    simp only [wts, List.map_cons, List.sum_cons, List.length_cons] at ih ⊢
    omega
theorem wts_append (a b : List M5) : wts (a ++ b) = wts a + wts b := by
  simp [wts]
theorem wts_cons (e : M5) (b : List M5) : wts (e :: b) = wt e + wts b := by
  simp [wts]
theorem wts_erase : ∀ (l : List M5) (i : Nat) (e : M5), l[i]? = some e → wts l = wt e + wts (l.eraseIdx i)
  | [], i, e, h => by simp at h
  | x :: r, 0, e, h => by
    simp at h
    subst h
    simp [wts]
  | x :: r, i + 1, e, h => by
    have ih := wts_erase r i e (by simpa using h)
    simp only [List.eraseIdx_cons_succ, wts_cons, ih]
    omega
/-- the sizes that the walk asks for -/
structure Fit (m : MWorld) : Prop where
  net : m.net.length < 500000
  tr : m.trace.length < 500000
  out : m.srv.outbox.length < 500000
  unf : m.srv.disk.unf.length < 500000
  rcv : ∀ p ∈ m.parties, p.received.length < 500000
theorem Good.fit {N : Nat} {m : MWorld} (g : Good N m) (h : N < 400000) : Fit m := by
  have h1 := g.phi
  have h2 := wts_len m.net
  have h3 := g.unf
  unfold Tz.phi at h1
  exact ⟨by omega, by omega, by omega, by omega, fun p hp => by
    have := g.rcv p hp
    omega⟩
theorem arrive_parties (m : MWorld) (e : M5) : (m.arrive e).parties.length = m.parties.length := by
  unfold MWorld.arrive MWorld.arriveRequest MWorld.arriveReply
  split
  · split <;> rfl
  · split
    · exact List.length_set
    · rfl
theorem arrive_net (m : MWorld) (e : M5) : (m.arrive e).net = m.net := by
  unfold MWorld.arrive MWorld.arriveRequest MWorld.arriveReply
  split
  · split <;> rfl
  · split <;> rfl
/-- an arrival takes no more than its message was worth -/
theorem arrive_good {N x : Nat} {m : MWorld} {e : M5} (g : Good N m) (hx : phi m + (wt e + x) ≤ N) (hr : inR m.parties.length e) : Good N (m.arrive e) ∧ phi (m.arrive e) + x ≤ N := by
  have h1 := g.phi
  have key : phi (m.arrive e) + x ≤ N ∧ (m.arrive e).srv.disk.unf.length ≤ (m.arrive e).trace.length ∧ (∀ p ∈ (m.arrive e).parties, p.received.length ≤ (m.arrive e).trace.length) ∧
      (∀ y ∈ (m.arrive e).srv.outbox, y.k = 1 ∧ inR m.parties.length y) := by
    unfold MWorld.arrive
    by_cases hk : e.k = 0
    · have hw : wt e = 4 := if_pos hk
      rw [if_pos hk]
      unfold MWorld.arriveRequest
      by_cases hu : m.srv.up = true
      · rw [if_pos hu]
        have hl : (m.srv.serveRows e m.reserve).length ≤ 2 ∧ 1 ≤ (m.srv.serveRows e m.reserve).length ∧ (m.srv.serve e m.reserve).disk.unf.length + 1 ≤ m.srv.disk.unf.length + (m.srv.serveRows e m.reserve).length := by
          unfold MSrv.serveRows MSrv.wroteRows MSrv.serve MSrv.wrote
          split <;> simp [MDisk.write] <;> omega
        have ho : (m.srv.serve e m.reserve).outbox = m.srv.outbox ++ [⟨1, e.c, e.b, e.n, (m.srv.wrote m.reserve).next⟩] := by
          unfold MSrv.serve MSrv.wrote
          split <;> rfl
        refine ⟨?_, ?_, ?_, ?_⟩
        · unfold phi at h1 hx ⊢
          simp only [List.length_append, ho, List.length_cons, List.length_nil]
          omega
        · have := g.unf
          simp only [List.length_append]
          omega
        · intro p hp
          have := g.rcv p hp
          simp only [List.length_append]
          omega
        · intro y hy
          rw [ho] at hy
          rcases List.mem_append.mp hy with q | q
          · exact g.out y q
          · simp only [List.mem_singleton] at q
            rw [q]
            exact ⟨rfl, hr⟩
      · rw [if_neg hu]
        exact ⟨by omega, g.unf, g.rcv, g.out⟩
    · have hw : wt e = 1 := if_neg hk
      rw [if_neg hk]
      unfold MWorld.arriveReply
      by_cases ha : (m.party e.c).accepts e.b e.n = true
      · rw [if_pos ha]
        refine ⟨?_, ?_, ?_, g.out⟩
        · unfold phi at h1 hx ⊢
          simp only [List.length_append, List.length_cons, List.length_nil]
          omega
        · have := g.unf
          simp only [List.length_append, List.length_cons, List.length_nil]
          omega
        · intro p hp
          simp only [List.length_append, List.length_cons, List.length_nil]
          rcases List.mem_or_eq_of_mem_set hp with q | q
          · have := g.rcv p q
            omega
          · have hlt : (e.c - 1).toNat < m.parties.length := by
              have := hr.1
              have := hr.2
              omega
            have z := g.rcv (m.party e.c) (by
              unfold MWorld.party
              rw [List.getElem?_eq_getElem hlt]
              exact List.getElem_mem hlt)
            rw [q]
            unfold MParty.receive
            simp only [List.length_append, List.length_cons, List.length_nil]
            omega
      · rw [if_neg ha]
        exact ⟨by omega, g.unf, g.rcv, g.out⟩
  refine ⟨⟨by omega, key.2.1, key.2.2.1, ?_, ?_⟩, key.1⟩
  · rw [arrive_net, arrive_parties]
    exact g.net
  · rw [arrive_parties]
    exact key.2.2.2
theorem force_good {N : Nat} {m : MWorld} (g : Good N m) : Good N m.force ∧ phi m.force = phi m := by
  have hw : wts m.srv.outbox = m.srv.outbox.length := by
    have : ∀ l : List M5, (∀ e ∈ l, e.k = 1) → wts l = l.length := by
      intro l
      induction l with
      | nil => intro _; rfl
      | cons e r ih =>
        intro h
        rw [wts_cons, ih fun x hx => h x (List.mem_cons_of_mem _ hx)]
        have : wt e = 1 := if_neg (by rw [h e (List.mem_cons_self ..)]; decide)
        rw [List.length_cons]
        omega
    exact this _ fun e he => (g.out e he).1
  have hp : phi m.force = phi m := by
    unfold phi MWorld.force MSrv.force MSrv.forceRows
    simp only [List.length_append, wts_append, hw, List.length_map, List.length_nil]
    omega
  refine ⟨⟨by rw [hp]; exact g.phi, ?_, ?_, ?_, ?_⟩, hp⟩
  · exact Nat.zero_le _
  · intro p hp
    have := g.rcv p hp
    unfold MWorld.force
    simp only [List.length_append]
    omega
  · intro e he
    rcases List.mem_append.mp he with q | q
    · exact g.net e q
    · exact (g.out e q).2
  · intro e he
    exact absurd he (by unfold MWorld.force MSrv.force; simp)
theorem forcedIf_good {N : Nat} {m : MWorld} (g : Good N m) : Good N m.forcedIf := by
  unfold MWorld.forcedIf
  split
  · exact (force_good g).1
  · exact g
/-- the messages of a round, one by one -/
theorem fold_good {N : Nat} : ∀ (l : List M5) (m : MWorld), Good N m → phi m + wts l ≤ N → (∀ e ∈ l, inR m.parties.length e) → Good N (l.foldl MWorld.arrive m)
  | [], m, g, _, _ => g
  | e :: r, m, g, h, hr => by
    rw [wts_cons] at h
    obtain ⟨g1, h1⟩ := arrive_good g h (hr e (List.mem_cons_self ..))
    exact fold_good r (m.arrive e) g1 h1 fun y hy => by
      rw [arrive_parties]
      exact hr y (List.mem_cons_of_mem _ hy)
theorem fold_good2 {N x : Nat} : ∀ (l : List M5) (m : MWorld), Good N m → phi m + (wts l + x) ≤ N → (∀ e ∈ l, inR m.parties.length e) → Good N (l.foldl MWorld.arrive m) ∧ phi (l.foldl MWorld.arrive m) + x ≤ N
  | [], m, g, h, _ => ⟨g, by
    simp only [wts, List.map_nil, List.sum_nil] at h
    rw [List.foldl_nil]
    omega⟩
  | e :: r, m, g, h, hr => by
    rw [wts_cons] at h
    obtain ⟨g1, h1⟩ := arrive_good (x := wts r + x) g (by omega) (hr e (List.mem_cons_self ..))
    exact fold_good2 r (m.arrive e) g1 h1 fun y hy => by
      rw [arrive_parties]
      exact hr y (List.mem_cons_of_mem _ hy)
theorem empty_good {N : Nat} {m : MWorld} (g : Good N m) : Good N m.emptied ∧ phi m.emptied + wts m.net = phi m := by
  have hp : phi m.emptied + wts m.net = phi m := by
    unfold phi MWorld.emptied
    simp [wts]
    omega
  refine ⟨⟨?_, g.unf, g.rcv, fun e he => absurd he List.not_mem_nil, g.out⟩, hp⟩
  have := g.phi
  omega
theorem calmRound_good {N : Nat} {m : MWorld} (g : Good N m) : Good N m.calmRound := by
  have g1 := forcedIf_good g
  obtain ⟨g2, h2⟩ := empty_good g1
  have := g1.phi
  exact fold_good _ _ g2 (by omega) g1.net
theorem calmly_good {N : Nat} {m : MWorld} (g : Good N m) : ∀ n, Good N (m.calmly n)
  | 0 => g
  | n + 1 => calmRound_good (calmly_good g n)
theorem fold_parties : ∀ (l : List M5) (m : MWorld), (l.foldl MWorld.arrive m).parties.length = m.parties.length
  | [], m => rfl
  | e :: r, m => by rw [List.foldl_cons, fold_parties r, arrive_parties]
/-! ### what a step adds -/
theorem took_good {N : Nat} {m : MWorld} {i : Nat} {e : M5} (g : Good N m) (h : m.net[i]? = some e) : Good N (m.took i) ∧ phi (m.took i) + wt e = phi m := by
  have hp : phi (m.took i) + wt e = phi m := by
    have := wts_erase m.net i e h
    unfold phi MWorld.took
    simp only []
    omega
  refine ⟨⟨?_, g.unf, g.rcv, fun y hy => g.net y (List.mem_of_mem_eraseIdx hy), g.out⟩, hp⟩
  have := g.phi
  omega
theorem put_good {N : Nat} {m : MWorld} {e : M5} (g : Good N m) (h : inR m.parties.length e) : Good (N + 4) { m with net := m.net ++ [e] } := by
  refine ⟨?_, g.unf, g.rcv, fun y hy => ?_, g.out⟩
  · have h1 := g.phi
    have h2 := wt_le e
    unfold phi at h1 ⊢
    simp only [wts_append, wts_cons]
    simp [wts] at h1 ⊢
    omega
  · rcases List.mem_append.mp hy with q | q
    · exact g.net y q
    · simp only [List.mem_singleton] at q
      rw [q]
      exact h
theorem setParty_good {N : Nat} {m : MWorld} {i : Nat} {p : MParty} (g : Good N m) (h : p.received.length ≤ m.trace.length) : Good N { m with parties := m.parties.set i p } := by
  refine ⟨g.phi, g.unf, fun q hq => ?_, ?_, ?_⟩
  · rcases List.mem_or_eq_of_mem_set hq with z | z
    · exact g.rcv q z
    · rw [z]
      exact h
  · show ∀ e ∈ m.net, inR (m.parties.set i p).length e
    rw [List.length_set]
    exact g.net
  · show ∀ e ∈ m.srv.outbox, e.k = 1 ∧ inR (m.parties.set i p).length e
    rw [List.length_set]
    exact g.out
theorem party_mem {m : MWorld} {c : Int} (h : m.has c = true) : (m.party c) ∈ m.parties ∧ m.parties[(c - 1).toNat]? = some (m.party c) := by
  unfold MWorld.has at h
  simp only [Bool.and_eq_true, decide_eq_true_eq] at h
  have hlt : (c - 1).toNat < m.parties.length := by omega
  unfold MWorld.party
  rw [List.getElem?_eq_getElem hlt]
  exact ⟨List.getElem_mem hlt, rfl⟩
theorem row_good {N : Nat} {m : MWorld} {r : M6} (g : Good N m) : Good (N + 1) { m with trace := m.trace ++ [r] } := by
  have h1 := g.phi
  refine ⟨?_, ?_, fun p hp => ?_, g.net, g.out⟩
  · unfold phi at h1 ⊢
    simp only [List.length_append, List.length_cons, List.length_nil]
    omega
  · have := g.unf
    simp only [List.length_append, List.length_cons, List.length_nil]
    omega
  · have := g.rcv p hp
    simp only [List.length_append, List.length_cons, List.length_nil]
    omega
theorem change_good {N : Nat} {m : MWorld} (g : Good N m) (op a : Int) (ha : 0 ≤ a) : Good (N + 5) (m.change op a).1 := by
  have g5 : Good (N + 5) m := g.mono (by omega)
  unfold MWorld.change
  split
  · unfold MWorld.ask
    split
    · exact g5
    · rename_i hh
      have hh : m.has a = true := by simpa using hh
      have hr : 1 ≤ a ∧ a ≤ (m.parties.length : Int) := by
        unfold MWorld.has at hh
        simpa using hh
      split
      · exact g5
      · split
        · split
          · exact g5
          · have gp : Good N { m with parties := m.parties.set (a - 1).toNat (m.party a).ask } := setParty_good g (g.rcv (m.party a) (party_mem hh).1)
            have ga : Good (N + 1) (m.asked a) := row_good gp
            refine (put_good (e := ⟨0, a, ((m.asked a).party a).boot, ((m.asked a).party a).nonce, 0⟩) ga ?_).mono (by omega)
            show 1 ≤ a ∧ a ≤ ((m.parties.set (a - 1).toNat (m.party a).ask).length : Int)
            rw [List.length_set]
            exact hr
        · split
          · exact g5
          · exact (put_good (e := ⟨0, a, (m.party a).boot, (m.party a).nonce, 0⟩) g hr).mono (by omega)
  · split
    · unfold MWorld.moveMessage
      split
      · exact g5
      · rename_i hl
        have hlt : a.toNat < m.net.length := by omega
        obtain ⟨e, he⟩ : ∃ e, m.net[a.toNat]? = some e := ⟨_, List.getElem?_eq_getElem hlt⟩
        have hm : e ∈ m.net := List.mem_of_getElem? he
        rw [he]
        simp only [Option.getD_some]
        obtain ⟨gt, ht⟩ := took_good g he
        split
        · have := g.phi
          exact (arrive_good (x := 0) gt (by omega) (g.net e hm)).1.mono (by omega)
        · split
          · exact gt.mono (by omega)
          · exact (put_good g (g.net e hm)).mono (by omega)
    · split
      · unfold MWorld.turnService
        split
        · split
          · exact g5
          · have z : Good N { m with srv := m.srv.restart } := ⟨g.phi, g.unf, g.rcv, g.net, g.out⟩
            exact (row_good z).mono (by omega)
        · split
          · exact g5
          · split
            · exact (force_good g).1.mono (by omega)
            · have z : Good N { m with srv := m.srv.crash a } := by
                refine ⟨?_, ?_, g.rcv, g.net, fun e he => absurd he List.not_mem_nil⟩
                · have := g.phi
                  unfold phi at this ⊢
                  simp only [MSrv.crash, List.length_nil]
                  omega
                · have : (m.srv.disk.crash a).unf = [] := by
                    unfold MDisk.crash
                    simp only []
                    split <;> (split <;> rfl)
                  simp only [MSrv.crash, this, List.length_nil]
                  omega
              exact (row_good z).mono (by omega)
      · split
        · unfold MWorld.turnClient
          split
          · exact g5
          · rename_i hh
            have hh : m.has a = true := by simpa using hh
            split
            · split
              · exact g5
              · exact (setParty_good (i := (a - 1).toNat) (p := (m.party a).crash) g (g.rcv (m.party a) (party_mem hh).1)).mono (by omega)
            · split
              · exact g5
              · exact (setParty_good (i := (a - 1).toNat) (p := (m.party a).restart) g (g.rcv (m.party a) (party_mem hh).1)).mono (by omega)
        · exact (calmly_good g _).mono (by omega)
theorem fresh_good (rv n : Int) : Good 0 (.fresh rv n) := by
  refine ⟨Nat.le_refl _, Nat.le_refl _, fun p hp => ?_, fun e he => absurd he List.not_mem_nil, fun e he => absurd he List.not_mem_nil⟩
  have := (List.mem_replicate.mp hp).2
  rw [this]
  exact Nat.le_refl _
theorem steps_good {N : Nat} : ∀ (l : List (Int × Int)) (x : MWorld × Int × Int), Good N x.1 → (∀ p ∈ l, 0 ≤ p.2) → Good (N + 5 * l.length) (l.foldl stepOn x).1
  | [], x, g, _ => g
  | p :: r, x, g, h => by
    have g1 := change_good g p.1 p.2 (h p (List.mem_cons_self ..))
    have e : (stepOn x p).1 = (x.1.change p.1 p.2).1 := by
      unfold stepOn
      simp only []
      split <;> rfl
    have z := steps_good r (stepOn x p) (by rw [e]; exact g1) fun q hq => h q (List.mem_cons_of_mem _ hq)
    rw [List.foldl_cons]
    refine z.mono ?_
    rw [List.length_cons]
    omega
theorem runSteps_good {N : Nat} {m : MWorld} (g : Good N m) (l : List Int) : Good (N + 5 * (pairsOf l).length) (m.runSteps l).1 := by
  unfold MWorld.runSteps
  split
  · exact g.mono (by omega)
  · rename_i h
    refine steps_good (pairsOf l) (m, 0, 0) g fun p hp => ?_
    have h' : isStepList l = true := by simpa using h
    unfold isStepList at h'
    simp only [Bool.and_eq_true, List.all_eq_true] at h'
    have z := h'.2.2 p hp
    unfold isStep at z
    by_cases q : p.1 < 2 ∨ 12 < p.1 ∨ p.2 < 0
    · rw [if_pos q] at z
      cases z
    · omega
theorem change_ans (m : MWorld) (op a : Int) : ∃ z r, (m.change op a).2 = z :: r := by
  unfold MWorld.change
  split
  · unfold MWorld.ask
    split
    · exact ⟨_, _, rfl⟩
    · split
      · exact ⟨_, _, rfl⟩
      · split
        · split
          · exact ⟨_, _, rfl⟩
          · exact ⟨_, _, rfl⟩
        · split
          · exact ⟨_, _, rfl⟩
          · exact ⟨_, _, rfl⟩
  · split
    · unfold MWorld.moveMessage
      split
      · exact ⟨_, _, rfl⟩
      · simp only []
        split
        · unfold MWorld.arriveAns MWorld.arriveRequestAns MWorld.arriveReplyAns
          simp only []
          split
          · split <;> exact ⟨_, _, rfl⟩
          · split <;> exact ⟨_, _, rfl⟩
        · split <;> exact ⟨_, _, rfl⟩
    · split
      · unfold MWorld.turnService
        split
        · split <;> exact ⟨_, _, rfl⟩
        · split
          · exact ⟨_, _, rfl⟩
          · split <;> exact ⟨_, _, rfl⟩
      · split
        · unfold MWorld.turnClient
          split
          · exact ⟨_, _, rfl⟩
          · split
            · split <;> exact ⟨_, _, rfl⟩
            · split <;> exact ⟨_, _, rfl⟩
        · exact ⟨_, _, rfl⟩
/-- the k-th pair -/
theorem pairsOf_get : ∀ (l : List Int) (k : Nat) (a b : Int), l[2 * k]? = some a → l[2 * k + 1]? = some b → (pairsOf l)[k]? = some (a + 2, b)
  | [], k, a, b, h, _ => by simp at h
  | [x], k, a, b, _, h => by simp at h
  | x :: y :: r, 0, a, b, h1, h2 => by
    simp at h1 h2
    subst h1 h2
    rfl
  | x :: y :: r, k + 1, a, b, h1, h2 => by
    show (pairsOf r)[k]? = _
    refine pairsOf_get r k a b ?_ ?_
    · have e : 2 * (k + 1) = 2 * k + 1 + 1 := by omega
      rw [e] at h1
      simpa using h1
    · have e : 2 * (k + 1) + 1 = 2 * k + 1 + 1 + 1 := by omega
      rw [e] at h2
      simpa using h2
theorem pairsOf_even : ∀ (l : List Int), l.length % 2 = 0 → l.length = 2 * (pairsOf l).length
  | [], _ => rfl
  | [x], h => by simp at h
  | x :: y :: r, h => by
    have z := pairsOf_even r (by simp only [List.length_cons] at h; omega)
    simp only [pairsOf, List.length_cons]
    omega
theorem pairsOf_len : ∀ l : List Int, 2 * (pairsOf l).length ≤ l.length
  | [] => Nat.le_refl _
  | [_] => Nat.zero_le _
  | c :: a :: r => by
    have := pairsOf_len r
    simp only [pairsOf, List.length_cons]
    omega
end Tz
/-! Sizes in the scheduler's plan. -/
namespace Tz
/-- the sizes after i events -/
structure PlanFit (i : Nat) (p : MPlan) : Prop where
  st : p.steps.length ≤ 2000 * i
  pe : p.pending.length ≤ 200 * i
  bo : p.boots.length = 9
  nx : 1 ≤ p.next ∧ p.next ≤ 101
  bb : ∀ b ∈ p.boots, 0 ≤ b ∧ b ≤ 10
/-- an event that the scheduler takes -/
def EvOk (e : M5) : Prop := 1 ≤ e.c ∧ e.c ≤ 8 ∧ 0 ≤ e.b ∧ e.b ≤ 10 ∧ 0 ≤ e.s ∧ e.s ≤ 100
theorem step_len (p : MPlan) (a b : Int) : (p.step a b).steps.length = p.steps.length + 2 := by
  simp [MPlan.step]
theorem upBy_facts (c : Int) (p : MPlan) : ∀ n, (MPlan.upBy c n p).steps.length = p.steps.length + 4 * n ∧ (MPlan.upBy c n p).boots = p.boots ∧ (MPlan.upBy c n p).pending = p.pending ∧ (MPlan.upBy c n p).next = p.next
  | 0 => ⟨rfl, rfl, rfl, rfl⟩
  | n + 1 => by
    obtain ⟨h1, h2, h3, h4⟩ := upBy_facts c p n
    refine ⟨?_, h2, h3, h4⟩
    show (((MPlan.upBy c n p).step 8 c).step 9 c).steps.length = _
    rw [step_len, step_len, h1]
    omega
theorem passStamp_facts (p : MPlan) (s o c : Int) : (p.passStamp s o c).steps.length ≤ p.steps.length + 8 ∧ (p.passStamp s o c).boots = p.boots ∧ (p.passStamp s o c).pending.length ≤ p.pending.length + 1 ∧ (p.passStamp s o c).next = p.next := by
  unfold MPlan.passStamp
  split
  · refine ⟨?_, rfl, ?_, rfl⟩
    · show (p.makeStamp o).steps.length ≤ _
      unfold MPlan.makeStamp
      rw [step_len, step_len, step_len]
      omega
    · simp
  · refine ⟨?_, rfl, ?_, rfl⟩
    · unfold MPlan.makeStamp
      rw [step_len, step_len, step_len, step_len]
      omega
    · show p.pending.length ≤ _
      omega
theorem passBy_facts (es : List M5) (c f : Int) (p : MPlan) : ∀ n, (MPlan.passBy es c f n p).steps.length ≤ p.steps.length + 8 * n ∧ (MPlan.passBy es c f n p).boots = p.boots ∧ (MPlan.passBy es c f n p).pending.length ≤ p.pending.length + n ∧ (MPlan.passBy es c f n p).next = p.next
  | 0 => ⟨Nat.le_refl _, rfl, Nat.le_refl _, rfl⟩
  | n + 1 => by
    obtain ⟨h1, h2, h3, h4⟩ := passBy_facts es c f p n
    obtain ⟨g1, g2, g3, g4⟩ := passStamp_facts (MPlan.passBy es c f n p) (f + n) (ownerOf es (f + n)) c
    refine ⟨?_, g2.trans h2, ?_, g4.trans h4⟩
    · show ((MPlan.passBy es c f n p).passStamp (f + n) (ownerOf es (f + n)) c).steps.length ≤ _
      omega
    · show ((MPlan.passBy es c f n p).passStamp (f + n) (ownerOf es (f + n)) c).pending.length ≤ _
      omega
theorem fresh_fit : PlanFit 0 .fresh := ⟨Nat.le_refl _, Nat.le_refl _, rfl, by decide, by decide⟩
theorem planOn_fit {es : List M5} {i : Nat} {p : MPlan} {e : M5} (h : PlanFit i p) (k : EvOk e) : PlanFit (i + 1) (planOn es p e) := by
  obtain ⟨k1, k2, k3, k4, k5, k6⟩ := k
  unfold planOn
  split
  · unfold MPlan.planRequest MPlan.bootUp
    simp only []
    obtain ⟨h1, h2, h3, h4⟩ := upBy_facts e.c p (e.b - p.boot e.c).toNat
    have hb0 : 0 ≤ p.boot e.c := by
      unfold MPlan.boot
      cases q : p.boots[e.c.toNat]? with
      | none => exact Int.le_refl _
      | some b => exact (h.bb b (List.mem_of_getElem? q)).1
    have hn : (e.b - p.boot e.c).toNat ≤ 10 := by omega
    refine ⟨?_, ?_, ?_, ?_, ?_⟩
    · rw [step_len, step_len]
      show (MPlan.upBy e.c (e.b - p.boot e.c).toNat p).steps.length + 2 + 2 ≤ _
      have := h.st
      omega
    · show (MPlan.upBy e.c (e.b - p.boot e.c).toNat p).pending.length ≤ _
      rw [h3]
      have := h.pe
      omega
    · show ((MPlan.upBy e.c (e.b - p.boot e.c).toNat p).boots.set e.c.toNat e.b).length = 9
      rw [List.length_set, h2]
      exact h.bo
    · show 1 ≤ (MPlan.upBy e.c (e.b - p.boot e.c).toNat p).next ∧ (MPlan.upBy e.c (e.b - p.boot e.c).toNat p).next ≤ 101
      rw [h4]
      exact h.nx
    · intro b hb
      have hb' : b ∈ (MPlan.upBy e.c (e.b - p.boot e.c).toNat p).boots.set e.c.toNat e.b := hb
      rcases List.mem_or_eq_of_mem_set hb' with q | q
      · rw [h2] at q
        exact h.bb b q
      · rw [q]
        exact ⟨k3, k4⟩
  · split
    · unfold MPlan.planPending
      simp only []
      refine ⟨?_, ?_, h.bo, h.nx, h.bb⟩
      · show (p.step 2 _).steps.length ≤ _
        rw [step_len]
        have := h.st
        omega
      · show (p.pending.eraseIdx _).length ≤ _
        have := List.length_eraseIdx_le p.pending (p.pending.idxOf e.s)
        have := h.pe
        omega
    · rename_i hlt
      unfold MPlan.planNew
      simp only []
      obtain ⟨h1, h2, h3, h4⟩ := passBy_facts es e.c p.next p (e.s - p.next).toNat
      have hn : (e.s - p.next).toNat ≤ 100 := by
        have := h.nx
        omega
      refine ⟨?_, ?_, ?_, ?_, ?_⟩
      · show (((MPlan.passBy es e.c p.next (e.s - p.next).toNat p).makeStamp e.c).step 2 _).steps.length ≤ _
        unfold MPlan.makeStamp
        rw [step_len, step_len, step_len, step_len]
        have := h.st
        omega
      · show (MPlan.passBy es e.c p.next (e.s - p.next).toNat p).pending.length ≤ _
        have := h.pe
        omega
      · show (MPlan.passBy es e.c p.next (e.s - p.next).toNat p).boots.length = 9
        rw [h2]
        exact h.bo
      · show 1 ≤ e.s + 1 ∧ e.s + 1 ≤ 101
        omega
      · show ∀ b ∈ (MPlan.passBy es e.c p.next (e.s - p.next).toNat p).boots, 0 ≤ b ∧ b ≤ 10
        rw [h2]
        exact h.bb
theorem fold_fit {es : List M5} : ∀ (l : List M5) (i : Nat) (p : MPlan), PlanFit i p → (∀ e ∈ l, EvOk e) → PlanFit (i + l.length) (l.foldl (planOn es) p)
  | [], i, p, h, _ => h
  | e :: r, i, p, h, k => by
    have z := fold_fit (es := es) r (i + 1) (planOn es p e) (planOn_fit h (k e (List.mem_cons_self ..))) fun x hx => k x (List.mem_cons_of_mem _ hx)
    rw [List.foldl_cons, List.length_cons]
    rw [show i + 1 + r.length = i + (r.length + 1) by omega] at z
    exact z
/-- a receipt of a timestamp that was made is one that waits -/
def PlanMem (es : List M5) : Prop := ∀ i e, es[i]? = some e → e.k ≠ 0 → e.s < ((es.take i).foldl (planOn es) MPlan.fresh).next → e.s ∈ ((es.take i).foldl (planOn es) MPlan.fresh).pending
end Tz
namespace Tz
open PySem PySem.Spec PyProof.Rows L2
/-! ### the text by places -/
def top (i : Nat) : Stmt := PySem.Challenge.pw_timestampservice_s01_answers.main.body.getD i (.Pass ⟨0, 0, 0, 0⟩)
/-! ### heaps -/
theorem upd_ap {H : Hp} {a b : Addr} {o : HO} : upd H a o b = if b = a then some o else H b := rfl
/-- only what stands at S may have changed; a tuple never does -/
def Keep (S : List Addr) (H H' : Hp) : Prop := ∀ b o, H b = some o → (b ∉ S ∨ ∃ xs, o = .tup xs) → H' b = some o
/-- what stands in S' stood in S or is new -/
def New (H : Hp) (S S' : List Addr) : Prop := ∀ b ∈ S', b ∈ S ∨ H b = none
structure Mv (S : List Addr) (H : Hp) (S' : List Addr) (H' : Hp) : Prop where
  keep : Keep S H H'
  new : New H S S'
  alive : ∀ b o, H b = some o → ∃ o', H' b = some o'
theorem Mv.back {S S' : List Addr} {H H' : Hp} (a : Mv S H S' H') {b : Addr} (h : H' b = none) : H b = none := by
  cases q : H b with
  | none => rfl
  | some o =>
    obtain ⟨o', e⟩ := a.alive b o q
    rw [h] at e
    cases e
theorem Mv.refl (S : List Addr) (H : Hp) : Mv S H S H := ⟨fun _ _ h _ => h, fun _ h => .inl h, fun _ o h => ⟨o, h⟩⟩
theorem Mv.get {S S' : List Addr} {H H' : Hp} (a : Mv S H S' H') {b : Addr} {o : HO} (h : H b = some o) (hb : b ∉ S) : H' b = some o := a.keep b o h (.inl hb)
theorem Mv.tup {S S' : List Addr} {H H' : Hp} (a : Mv S H S' H') {b : Addr} {xs : List V} (h : H b = some (.tup xs)) : H' b = some (.tup xs) := a.keep b _ h (.inr ⟨xs, rfl⟩)
theorem Mv.trans {S S1 S2 : List Addr} {H H1 H2 : Hp} (a : Mv S H S1 H1) (b : Mv S1 H1 S2 H2) : Mv S H S2 H2 := by
  refine ⟨fun c o h hc => b.keep c o (a.keep c o h hc) ?_, fun c hc => ?_, fun c o h => ?_⟩
  · rcases hc with hc | hc
    · left
      intro hc1
      rcases a.new c hc1 with h1 | h1
      · exact hc h1
      · rw [h] at h1
        cases h1
    · exact .inr hc
  · rcases b.new c hc with h1 | h1
    · exact a.new c h1
    · exact .inr (a.back h1)
  · obtain ⟨o', e⟩ := a.alive c o h
    exact b.alive c o' e
theorem alive_upd {H : Hp} {a : Addr} {o : HO} : ∀ b u, H b = some u → ∃ u', upd H a o b = some u' := fun b u e => by
  by_cases h : b = a
  · rw [h, upd_same]
    exact ⟨_, rfl⟩
  · rw [upd_ne h]
    exact ⟨u, e⟩
theorem Mv.upd {S : List Addr} {H : Hp} {a : Addr} {o : HO} (h : a ∈ S) (hm : ∀ xs, H a ≠ some (.tup xs)) : Mv S H S (L2.upd H a o) :=
  ⟨fun b u e hb => by
    have hne : b ≠ a := by
      intro q
      rcases hb with hb | ⟨xs, rfl⟩
      · exact hb (by rw [q]; exact h)
      · rw [q] at e
        exact hm xs e
    rw [upd_ne hne]
    exact e, fun _ h => .inl h, alive_upd⟩
theorem Mv.updL {S : List Addr} {H : Hp} {a : Addr} {o : HO} {xs : List V} (h : a ∈ S) (hm : H a = some (.lst xs)) : Mv S H S (L2.upd H a o) := .upd h fun ys q => by
  rw [hm] at q
  cases q
theorem Mv.updI {S : List Addr} {H : Hp} {a : Addr} {o : HO} {C dx : Addr} {fs : List (Str × V)} (h : a ∈ S) (hm : H a = some (.ins C dx fs)) : Mv S H S (L2.upd H a o) := .upd h fun ys q => by
  rw [hm] at q
  cases q
theorem Mv.laid {S : List Addr} {H : Hp} {a : Addr} {o : HO} (h : H a = none) : Mv S H (a :: S) (L2.upd H a o) :=
  ⟨fun b u e _ => by
    rw [upd_ne (ne_of_none e h)]
    exact e, fun b hb => by
    rcases List.mem_cons.mp hb with q | q
    · right
      rw [q]
      exact h
    · exact .inl q, alive_upd⟩
theorem Mv.of_same {S : List Addr} {H H' : Hp} (h : Same H H') : Mv S H S H' := ⟨fun b o e _ => h b o e, fun _ h => .inl h, fun b o e => ⟨o, h b o e⟩⟩
theorem same_new {H : Hp} {p : Addr} {o : HO} (h : H p = none) : Same H (upd H p o) := fun b u e => by
  rw [upd_ne (ne_of_none e h)]
  exact e
/-- a new object, not counted -/
theorem Mv.side {S : List Addr} {H : Hp} {a : Addr} {o : HO} (h : H a = none) : Mv S H S (L2.upd H a o) := .of_same (same_new h)
theorem Mv.sub {S S1 T T1 : List Addr} {H H1 : Hp} (a : Mv S H S1 H1) (h : ∀ b ∈ S, b ∈ T) (h1 : ∀ b ∈ T1, b ∈ S1 ∨ b ∈ T ∨ H b = none) : Mv T H T1 H1 :=
  ⟨fun b o e hb => a.keep b o e (hb.imp (fun hb q => hb (h b q)) id), fun b hb => by
    rcases h1 b hb with q | q | q
    · rcases a.new b q with z | z
      · exact .inl (h b z)
      · exact .inr z
    · exact .inl q
    · exact .inr q, a.alive⟩
/-- a part of the footprint -/
theorem Mv.mono {S T : List Addr} {H H1 : Hp} (a : Mv S H S H1) (h : ∀ b ∈ S, b ∈ T) : Mv T H T H1 := a.sub h fun _ hb => .inr (.inl hb)
theorem Mv.drop {S S1 T1 : List Addr} {H H1 : Hp} (a : Mv S H S1 H1) (h : ∀ b ∈ T1, b ∈ S1) : Mv S H T1 H1 := a.sub (fun _ h => h) fun b hb => .inl (h b hb)
theorem Mv.setL {S S1 : List Addr} {H H1 : Hp} {a : Addr} {o : HO} {xs : List V} (m : Mv S H S1 H1) (h : a ∈ S1) (hm : H1 a = some (.lst xs)) : Mv S H S1 (L2.upd H1 a o) := m.trans (.updL h hm)
theorem Mv.setI {S S1 : List Addr} {H H1 : Hp} {a : Addr} {o : HO} {C dx : Addr} {fs : List (Str × V)} (m : Mv S H S1 H1) (h : a ∈ S1) (hm : H1 a = some (.ins C dx fs)) : Mv S H S1 (L2.upd H1 a o) := m.trans (.updI h hm)
theorem Mv.lay {S S1 : List Addr} {H H1 : Hp} {a : Addr} {o : HO} (m : Mv S H S1 H1) (h : H1 a = none) : Mv S H (a :: S1) (L2.upd H1 a o) := m.trans (.laid h)
theorem Mv.aside {S S1 : List Addr} {H H1 : Hp} {a : Addr} {o : HO} (m : Mv S H S1 H1) (h : H1 a = none) : Mv S H S1 (L2.upd H1 a o) := m.trans (.side h)
theorem Mv.same {H H' : Hp} {S' : List Addr} (a : Mv [] H S' H') : Same H H' := fun b o e => a.keep b o e (.inl (by simp))
/-- what is new behind comes in -/
theorem Mv.grow {S S1 S2 : List Addr} {H H1 H2 : Hp} (a : Mv S H S1 H1) (s : Same H1 H2) (h : ∀ b ∈ S2, b ∈ S1 ∨ H1 b = none) : Mv S H S2 H2 := a.trans ⟨fun b o e _ => s b o e, h, fun b o e => ⟨o, s b o e⟩⟩
/-- a new object counted in -/
theorem Mv.more {S S1 : List Addr} {H H1 : Hp} {r : Addr} (a : Mv S H S1 H1) (h : H r = none) : Mv S H (r :: S1) H1 := ⟨a.keep, fun b hb => by
  rcases List.mem_cons.mp hb with q | q
  · right
    rw [q]
    exact h
  · exact a.new b q, a.alive⟩
theorem Mv.in1 {S : List Addr} {H H1 : Hp} {a : Addr} (h : a ∈ S) (m : Mv [a] H [a] H1) : Mv S H S H1 := m.mono fun b hb => by
  simp only [List.mem_cons, List.not_mem_nil, or_false] at hb
  rw [hb]
  exact h
theorem Mv.less {S S1 : List Addr} {H H1 : Hp} {r : Addr} (a : Mv S H (r :: S1) H1) : Mv S H S1 H1 := a.drop fun _ hb => List.mem_cons_of_mem _ hb
/-- a new instance and what its __init__ made -/
theorem made {S' : List Addr} {H H2 : Hp} {x dx C : Addr} (nx : H x = none) (s0 : Same H (L2.upd (L2.upd H dx (.own x)) x (.ins C dx []))) (mv : Mv [x] (L2.upd (L2.upd H dx (.own x)) x (.ins C dx [])) S' H2) : Same H H2 ∧ ∀ b ∈ S', H b = none := by
  refine ⟨fun b o e => mv.get (s0 b o e) ?_, fun b hb => ?_⟩
  · simp only [List.mem_cons, List.not_mem_nil, or_false]
    exact ne_of_none e nx
  · rcases mv.new b hb with q | q
    · simp only [List.mem_cons, List.not_mem_nil, or_false] at q
      rw [q]
      exact nx
    · exact s0.free q
theorem Mv.live {S S1 : List Addr} {H H1 : Hp} (a : Mv S H S1 H1) {b : Addr} {o : HO} (h : H b = some o) (hb : b ∉ S) : b ∉ S1 := fun q => by
  rcases a.new b q with z | z
  · exact hb z
  · rw [h] at z
    cases z
theorem map_ref : ∀ {as bs : List Addr}, as.map V.ref = bs.map V.ref → as = bs
  | [], [], _ => rfl
  | [], _ :: _, h => by cases h
  | _ :: _, [], h => by cases h
  | a :: as, b :: bs, h => by
    have e := List.cons.inj h
    rw [V.ref.inj e.1, map_ref e.2]
theorem map_erase {α β : Type} (f : α → β) : ∀ (l : List α) (i : Nat), (l.map f).eraseIdx i = (l.eraseIdx i).map f
  | [], _ => rfl
  | _ :: _, 0 => rfl
  | a :: l, i + 1 => by
    show f a :: (l.map f).eraseIdx i = f a :: (l.eraseIdx i).map f
    rw [map_erase f l i]
/-! ### lists of rows: each item a tuple of its own -/
def TupsAt (H : Hp) (as : List Addr) (rs : List (List Int)) : Prop := Paired (fun a r => H a = some (.tup (r.map V.int))) as rs
def RowsAt (H : Hp) (a : Addr) (rs : List (List Int)) : Prop := ∃ as, H a = some (.lst (as.map V.ref)) ∧ TupsAt H as rs
theorem TupsAt.len {H : Hp} : ∀ {as : List Addr} {rs : List (List Int)}, TupsAt H as rs → as.length = rs.length := fun h => Paired.length h
theorem TupsAt.get {H : Hp} : ∀ {as : List Addr} {rs : List (List Int)} {i : Nat} {r : List Int}, TupsAt H as rs → rs[i]? = some r → ∃ a, as[i]? = some a ∧ H a = some (.tup (r.map V.int))
  | _, _, _, _, .nil, e => by simp at e
  | _, _, 0, _, .cons h _, e => by simp at e; subst e; exact ⟨_, rfl, h⟩
  | _, _, i + 1, x, .cons _ t, e => by
    obtain ⟨u, h1, h2⟩ := TupsAt.get (i := i) (r := x) t (by simpa using e)
    exact ⟨u, by simpa using h1, h2⟩
theorem TupsAt.kept {H H' : Hp} (k : ∀ b xs, H b = some (.tup xs) → H' b = some (.tup xs)) : ∀ {as : List Addr} {rs : List (List Int)}, TupsAt H as rs → TupsAt H' as rs
  | _, _, .nil => .nil
  | _, _, .cons h t => .cons (k _ _ h) (TupsAt.kept k t)
theorem TupsAt.append {H : Hp} : ∀ {as bs : List Addr} {rs ss : List (List Int)}, TupsAt H as rs → TupsAt H bs ss → TupsAt H (as ++ bs) (rs ++ ss)
  | _, _, _, _, .nil, s => s
  | _, _, _, _, .cons r t, s => .cons r (TupsAt.append t s)
theorem TupsAt.erase {H : Hp} : ∀ {as : List Addr} {rs : List (List Int)} (i : Nat), TupsAt H as rs → TupsAt H (as.eraseIdx i) (rs.eraseIdx i)
  | _, _, _, .nil => .nil
  | _, _, 0, .cons _ t => t
  | _, _, i + 1, .cons h t => .cons h (TupsAt.erase i t)
theorem Mv.tups {S S' : List Addr} {H H' : Hp} (a : Mv S H S' H') {as : List Addr} {rs : List (List Int)} (h : TupsAt H as rs) : TupsAt H' as rs := h.kept fun _ _ e => a.tup e
theorem Mv.rows {S S' : List Addr} {H H' : Hp} (m : Mv S H S' H') {a : Addr} {rs : List (List Int)} (h : RowsAt H a rs) (ha : a ∉ S) : RowsAt H' a rs := by
  obtain ⟨as, h1, h2⟩ := h
  exact ⟨as, m.get h1 ha, m.tups h2⟩
theorem Same.tups {H H' : Hp} (s : Same H H') {as : List Addr} {rs : List (List Int)} (h : TupsAt H as rs) : TupsAt H' as rs := h.kept fun _ _ e => s _ _ e
theorem Same.rows {H H' : Hp} (s : Same H H') {a : Addr} {rs : List (List Int)} (h : RowsAt H a rs) : RowsAt H' a rs := by
  obtain ⟨as, h1, h2⟩ := h
  exact ⟨as, s _ _ h1, Tz.Same.tups s h2⟩
theorem RowsAt.live {H : Hp} {a : Addr} {rs : List (List Int)} (h : RowsAt H a rs) : ∃ xs, H a = some (.lst xs) := by
  obtain ⟨as, h1, _⟩ := h
  exact ⟨_, h1⟩
end Tz
namespace Tz
open PySem PySem.Spec PyProof.Rows L2
/-! ### what a caller needs of a def, a method, a class -/
section
variable (P : Program) (w : World) (K : PySem.W.Frag) (mg : Str → Option Value) (base : Heap)
def DefOk (x : Str) (k : Nat) (ps : List Str) (sp : Sp) : Prop := ∃ f fd, FnOk P w K mg base CX0 k f fd ps sp ∧ mg x = some (.ref f) ∧ PySem.W.keepIn K (.ref f) = true ∧ Binds K fd ps []
def MethOk (C : Addr) (m : Str) (k : Nat) (ps : List Str) (sp : Sp) : Prop := ∃ f fd, FnOk P w K mg base CX0 k f fd ps sp ∧ Meth K C m f ∧ Binds K fd ps []
def MakeOk (x : Str) (C : Addr) (k : Nat) (ps : List Str) (sp : Sp) : Prop := ∃ f fd, FnOk P w K mg base CX0 k f fd ps sp ∧ Mk K C f ∧ mg x = some (.ref C) ∧ Binds K fd ps []
end
section
variable {X : Cx} {k : Nat} {C : Addr} {ps : List Str} {sp : Sp} {x m : Str} {p pos apos : Pos} {e o : Expr} {es : List Expr} {ta : TE} {t : TA}
theorem pe_callD (D : DefOk X.prog X.w X.K X.mg X.base x k ps sp) (hr : Room k X.A) (ha : PA X (e :: es) t) (hg : Gl X x := by rfl)
    (hdb : (x == ("__debug__" : Str)) = false := by decide) (he : starEach (e :: es) X.env = (false, eval e X.env) :: starEach es X.env := by rfl) (hpl : (backTo pos (starEach es X.env)).any (·.1) = false := by rfl) :
    PE X (.Call (.Name x p) (e :: es) [] pos) (tCall sp [] E0 t) := by
  obtain ⟨f, fd, F, hm, hk, hb⟩ := D
  exact pe_call F hr hg hm hk hb .nil pass0 ha hdb he hpl
theorem pe_methD {pl : Sem Bool} (he : PE X o ta) (c : Cls X.K C) (D : MethOk X.prog X.w X.K X.mg X.base C m k ps sp) (hr : Room k X.A) (ha : PA X (e :: es) t)
    (hst : starEach (e :: es) X.env = (false, eval e X.env) :: starEach es X.env := by rfl) (hpl : (backTo pos (starEach es X.env)).any (·.1) = false := by rfl)
    (ht : eval (.Call (.Attribute o m apos) (e :: es) [] pos) X.env = (do
      let ov ← eval o X.env
      standAt apos.atName
      let (f, first) ← holding [ov] (getMethod ov m pl)
      callWith pos f first (backTo pos (starEach (e :: es) X.env)) (backToKw pos (keywordEach [] X.env))) := by rfl) :
    PE X (.Call (.Attribute o m apos) (e :: es) [] pos) (tMeth C m sp [] E0 ta t) := by
  obtain ⟨f, fd, F, hm, hb⟩ := D
  exact pe_meth he c hm F hr hb .nil pass0 ha hst hpl ht
theorem pe_methD0 {pl : Sem Bool} (he : PE X o ta) (c : Cls X.K C) (D : MethOk X.prog X.w X.K X.mg X.base C m k ps sp) (hr : Room k X.A)
    (ht : eval (.Call (.Attribute o m apos) [] [] pos) X.env = (do
      let ov ← eval o X.env
      standAt apos.atName
      let (f, first) ← holding [ov] (getMethod ov m pl)
      callWith pos f first (backTo pos (starEach [] X.env)) (backToKw pos (keywordEach [] X.env))) := by rfl) :
    PE X (.Call (.Attribute o m apos) [] [] pos) (tMeth C m sp [] E0 ta tNil) := by
  obtain ⟨f, fd, F, hm, hb⟩ := D
  exact pe_meth0 he c hm F hr hb .nil pass0 ht
theorem pe_makeD (D : MakeOk X.prog X.w X.K X.mg X.base x C k ps sp) (hr : Room (k + 1) X.A) (ha : PA X (e :: es) t) (hg : Gl X x := by rfl)
    (hdb : (x == ("__debug__" : Str)) = false := by decide) (he : starEach (e :: es) X.env = (false, eval e X.env) :: starEach es X.env := by rfl) (hpl : (backTo pos (starEach es X.env)).any (·.1) = false := by rfl) :
    PE X (.Call (.Name x p) (e :: es) [] pos) (tMake C sp [] E0 t) := by
  obtain ⟨f, fd, F, M, hm, hb⟩ := D
  exact pe_make M F hr hg hm hb .nil pass0 ha hdb he hpl
theorem pe_makeD0 (D : MakeOk X.prog X.w X.K X.mg X.base x C k ps sp) (hr : Room (k + 1) X.A) (hg : Gl X x := by rfl) (hdb : (x == ("__debug__" : Str)) = false := by decide) :
    PE X (.Call (.Name x p) [] [] pos) (tMake C sp [] E0 tNil) := by
  obtain ⟨f, fd, F, M, hm, hb⟩ := D
  exact pe_make0 M F hr hg hm hb .nil pass0 hdb
/-- a module's constant -/
theorem pe_gc {n : Int} (h : ∃ t, X.mg x = some (.int n t)) (hg : Gl X x := by rfl) (hd : (x == ("__debug__" : Str)) = false := by decide) : PE X (.Name x pos) (tC (.int n)) := by
  obtain ⟨t, h⟩ := h
  exact pe_glob hg h ⟨t, rfl⟩ hd
end
/-! ### readings whose value is known and that leave the heap -/
section
variable {K : PySem.W.Frag} {σ : L2.St} {H : Hp} {x y z v : V} {ta tb tc te : TE} {t u : TT} {tt : TA} {vs : List V} {a l : Addr} {xs : List V} {i j : Int} {sp : Sp} {E : XK} {C dx : Addr} {m : Str} {fs : List (Str × V)}
def AV (t : TA) (σ : L2.St) (H : Hp) (vs : List V) : Prop := ∀ Q : List V → Hp → Prop, Q vs H → t σ H Q
theorem av_nil : AV tNil σ H [] := fun _ q => q
theorem av_cons (h : Val ta σ H x) (hr : AV tt σ H vs) : AV (tCons ta tt) σ H (x :: vs) := fun _ q => h _ (hr _ q)
theorem v_add (ha : Val ta σ H (.int i)) (hb : Val tb σ H (.int j)) : Val (tOp (rI0 fun i j => .int (i + j)) ta tb) σ H (.int (i + j)) := val_op ha hb fun _ q => ⟨i, j, rfl, rfl, q⟩
theorem v_sub (ha : Val ta σ H (.int i)) (hb : Val tb σ H (.int j)) : Val (tOp (rI0 fun i j => .int (i - j)) ta tb) σ H (.int (i - j)) := val_op ha hb fun _ q => ⟨i, j, rfl, rfl, q⟩
theorem v_mod (hj : 0 < j) (ha : Val ta σ H (.int i)) (hb : Val tb σ H (.int j)) : Val (tOp (rI (fun _ j => 0 < j) fun i j => .int (i % j)) ta tb) σ H (.int (i % j)) := val_op ha hb fun _ q => ⟨i, j, rfl, rfl, hj, q⟩
theorem v_neg (ha : Val ta σ H (.int i)) : Val (tUn (rU fun i => .int (-i)) ta) σ H (.int (-i)) := fun _ q => ha _ ⟨i, rfl, q⟩
theorem v_ixL (ha : Val ta σ H (.ref a)) (hb : Val tb σ H (.int i)) (hl : SqL K H a xs) (hi : atI xs i = some v) : Val (tOp (rIxL K) ta tb) σ H v := val_op ha hb fun _ q => ⟨a, xs, i, v, rfl, rfl, hl, hi, q⟩
theorem v_ixT (ha : Val ta σ H (.ref a)) (hb : Val tb σ H (.int i)) (hl : SqT K H a xs) (hi : atI xs i = some v) : Val (tOp (rIxT K) ta tb) σ H v := val_op ha hb fun _ q => ⟨a, xs, i, v, rfl, rfl, hl, hi, q⟩
theorem v_len (ha : Val ta σ H (.ref a)) (hl : SqL K H a xs) : Val (tCB (fun xs H Q => ∃ p ys, xs = [.ref p] ∧ (SqL K H p ys ∨ SqT K H p ys) ∧ Q (.int ys.length) H) (tCons ta tNil)) σ H (.int (xs.length : Int)) :=
  fun _ q => ha _ ⟨a, xs, rfl, .inl hl, q⟩
theorem v_min2 (ha : Val ta σ H (.int i)) (hb : Val tb σ H (.int j)) : Val (tCB (fun xs H Q => ∃ i j, xs = [.int i, .int j] ∧ Q (.int (if j < i then j else i)) H) (tCons ta (tCons tb tNil))) σ H (.int (if j < i then j else i)) :=
  fun _ q => ha _ (hb _ ⟨i, j, rfl, q⟩)
theorem v_max2 (ha : Val ta σ H (.int i)) (hb : Val tb σ H (.int j)) : Val (tCB (fun xs H Q => ∃ i j, xs = [.int i, .int j] ∧ Q (.int (if j > i then j else i)) H) (tCons ta (tCons tb tNil))) σ H (.int (if j > i then j else i)) :=
  fun _ q => ha _ (hb _ ⟨i, j, rfl, q⟩)
theorem v_call (h : AV tt σ H vs) (hs : ∀ Q : VK, Q v H → sp vs H Q E) : Val (tCall sp [] E tt) σ H v := fun Q q => h _ (by
  show sp (vs ++ []) H Q E
  rw [List.append_nil]
  exact hs Q q)
theorem v_meth (h0 : Val ta σ H (.ref a)) (ho : H a = some (.ins C dx fs)) (hn : fs.lookup m = none) (h : AV tt σ H vs) (hs : ∀ Q : VK, Q v H → sp (.ref a :: vs) H Q E) : Val (tMeth C m sp [] E ta tt) σ H v := fun Q q =>
  h0 _ ⟨a, dx, fs, rfl, ho, hn, h _ (by
    show sp (.ref a :: (vs ++ [])) H Q E
    rw [List.append_nil]
    exact hs Q q)⟩
theorem v_meth0 (h0 : Val ta σ H (.ref a)) (ho : H a = some (.ins C dx fs)) (hn : fs.lookup m = none) (hs : ∀ Q : VK, Q v H → sp [.ref a] H Q E) : Val (tMeth C m sp [] E ta tNil) σ H v := v_meth h0 ho hn av_nil hs
theorem v_lt (ha : Val ta σ H (.int i)) (hb : Val tb σ H (.int j)) : Val (tOp (rI0 fun i j => .bl (decide (i < j))) ta tb) σ H (.bl (decide (i < j))) := val_op ha hb fun _ q => ⟨i, j, rfl, rfl, q⟩
theorem v_le (ha : Val ta σ H (.int i)) (hb : Val tb σ H (.int j)) : Val (tOp (rI0 fun i j => .bl (decide (i ≤ j))) ta tb) σ H (.bl (decide (i ≤ j))) := val_op ha hb fun _ q => ⟨i, j, rfl, rfl, q⟩
theorem v_gt (ha : Val ta σ H (.int i)) (hb : Val tb σ H (.int j)) : Val (tOp (rI0 fun i j => .bl (decide (j < i))) ta tb) σ H (.bl (decide (j < i))) := val_op ha hb fun _ q => ⟨i, j, rfl, rfl, q⟩
theorem v_ge (ha : Val ta σ H (.int i)) (hb : Val tb σ H (.int j)) : Val (tOp (rI0 fun i j => .bl (decide (j ≤ i))) ta tb) σ H (.bl (decide (j ≤ i))) := val_op ha hb fun _ q => ⟨i, j, rfl, rfl, q⟩
theorem dec_int (i j : Int) : decide (V.int i = V.int j) = decide (i = j) := by
  by_cases h : i = j
  · rw [h]
    simp
  · rw [decide_eq_false h]
    exact decide_eq_false fun q => h (V.int.inj q)
theorem v_eq (ha : Val ta σ H (.int i)) (hb : Val tb σ H (.int j)) : Val (tOp rEq ta tb) σ H (.bl (decide (i = j))) := val_op ha hb fun Q q => ⟨rfl, by rw [dec_int]; exact q⟩
theorem v_ne (ha : Val ta σ H (.int i)) (hb : Val tb σ H (.int j)) : Val (tOp rNe ta tb) σ H (.bl (!decide (i = j))) := val_op ha hb fun Q q => ⟨rfl, by rw [dec_int]; exact q⟩
theorem v_andV {p q : Bool} (ha : Val ta σ H (.bl p)) (hb : p = true → Val tb σ H (.bl q)) : Val (tAndV ta tb) σ H (.bl (p && q)) := fun Q k => ha _ ⟨p, rfl, by
  cases p with
  | true => exact hb rfl Q k
  | false => exact k⟩
theorem v_orV {p q : Bool} (ha : Val ta σ H (.bl p)) (hb : p = false → Val tb σ H (.bl q)) : Val (tOrV ta tb) σ H (.bl (p || q)) := fun Q k => ha _ ⟨p, rfl, by
  cases p with
  | true => exact k
  | false => exact hb rfl Q k⟩
theorem v_notV {p : Bool} (ha : Val ta σ H (.bl p)) : Val (tNotV ta) σ H (.bl (!p)) := fun _ k => ha _ ⟨p, rfl, k⟩
theorem v_chain {p q : Bool} {r r' : R2} {w' : V} (ha : Val ta σ H x) (hb : Val tb σ H y) (hc : p = true → Val tc σ H w') (h1 : ∀ Q : VK, Q (.bl p) H → r x y H Q) (h2 : p = true → ∀ Q : VK, Q (.bl q) H → r' y w' H Q) :
    Val (tChain r r' ta tb tc) σ H (.bl (p && q)) := fun Q k => ha _ (hb _ (h1 _ ⟨p, rfl, by
  cases p with
  | true => exact hc rfl _ (h2 rfl Q k)
  | false => exact k⟩))
theorem r_le {Q : VK} (q : Q (.bl (decide (i ≤ j))) H) : (rI0 fun i j => .bl (decide (i ≤ j))) (.int i) (.int j) H Q := ⟨i, j, rfl, rfl, q⟩
theorem r_lt {Q : VK} (q : Q (.bl (decide (i < j))) H) : (rI0 fun i j => .bl (decide (i < j))) (.int i) (.int j) H Q := ⟨i, j, rfl, rfl, q⟩
theorem v_to (h : Val te σ H v) (e : v = x) : Val te σ H x := e ▸ h
theorem x_op {r : R2} {Q : VK} (h : ta σ H fun x H1 => tb σ H1 fun y H2 => r x y H2 Q) : tOp r ta tb σ H Q := h
theorem x_lst {Q : VK} (h : AV tt σ H vs) (q : ∀ p, H p = none → Q (.ref p) (upd H p (.lst vs))) (hz : Nat.ble vs.length 1000 = true := by rfl) : tLst tt σ H Q := h _ ⟨Nat.le_trans (Nat.le_of_ble_eq_true hz) (by decide), q⟩
theorem x_tup {Q : VK} (h : AV tt σ H vs) (q : ∀ p, H p = none → Q (.ref p) (upd H p (.tup vs))) (hz : Nat.ble vs.length 1000 = true := by rfl) : tTup tt σ H Q := h _ ⟨Nat.le_trans (Nat.le_of_ble_eq_true hz) (by decide), q⟩
/-- [(..)] -/
theorem x_lst1T {Q : VK} (h : AV tt σ H vs) (q : ∀ p r, H p = none → H r = none → p ≠ r → Q (.ref r) (upd (upd H p (.tup vs)) r (.lst [.ref p]))) (hz : Nat.ble vs.length 1000 = true := by rfl) : tLst (tCons (tTup tt) tNil) σ H Q :=
  h _ ⟨Nat.le_trans (Nat.le_of_ble_eq_true hz) (by decide), fun p hp => ⟨by show 1 ≤ sizeLine; decide, fun r hr => by
    have hrp : r ≠ p := fun q => by
      rw [q, upd_same] at hr
      cases hr
    rw [upd_ne hrp] at hr
    exact q p r hp hr hrp.symm⟩⟩
theorem x_cons1 {Q : List V → Hp → Prop} (h : te σ H fun x H1 => Q [x] H1) : tCons te tNil σ H Q := h
/-- xs.m(e) of a list -/
theorem x_bm {T : String} {r : V → List V → Hp → VK → Prop} {Q : VK} (ha : Val ta σ H (.ref l)) (hl : H l = some (.lst xs)) (h : tt σ H fun ys H2 => r (.ref l) ys H2 Q) (hT : T = "list" := by rfl) : tBM K T r ta tt σ H Q := ha _ ⟨.inl ⟨hT, xs, SqL.of hl⟩, h⟩
/-- a comprehension's item without a test -/
theorem x_each {A B : Hp → Prop} (q : A H) : tYes σ H fun b H3 => if b = true then A H3 else B H3 := by
  show (if true = true then A H else B H)
  rw [if_pos rfl]
  exact q
/-- [.. for .. in list] -/
theorem x_lc_list {g : TG} {tq : TT} {ws : List Nat} {Q : VK} (ha : Val ta σ H (.ref a)) (hx : SqL K H a xs) (k : ∀ D, H D = none → ∃ Pv : Nat → Hp → Prop, Pv 0 (upd H D (.lst [])) ∧ (∀ i H', i ≤ xs.length → Pv i H' → SqL K H' a xs) ∧
    (∀ i y H', xs[i]? = some y → Pv i H' → g y (wipe σ ws) H' fun σ2 H2 => wipe σ2 ws = wipe σ ws ∧ tq σ2 H2 fun b H3 => if b = true then te σ2 H3 fun z H4 => ∃ acc, H4 D = some (.lst acc) ∧ acc.length < sizeLine ∧ Pv (i + 1) (upd H4 D (.lst (acc ++ [z]))) else Pv (i + 1) H3) ∧
    (∀ H', Pv xs.length H' → Q (.ref D) H')) : tLc (iList K ta) g tq te ws σ H Q :=
  ha _ ⟨a, rfl, ⟨xs, hx⟩, fun D hD => by
    obtain ⟨Pv, h0, hl, hs, hd⟩ := k D hD
    exact lc_list Pv h0 hl hs hd⟩
theorem x_call {Q : VK} (h : AV tt σ H vs) (q : sp vs H Q E) : tCall sp [] E tt σ H Q := h _ (by
  show sp (vs ++ []) H Q E
  rw [List.append_nil]
  exact q)
theorem x_meth {Q : VK} (h0 : Val ta σ H (.ref a)) (ho : H a = some (.ins C dx fs)) (hn : fs.lookup m = none) (h : AV tt σ H vs) (q : sp (.ref a :: vs) H Q E) : tMeth C m sp [] E ta tt σ H Q :=
  h0 _ ⟨a, dx, fs, rfl, ho, hn, h _ (by
    show sp (.ref a :: (vs ++ [])) H Q E
    rw [List.append_nil]
    exact q)⟩
theorem x_meth0 {Q : VK} (h0 : Val ta σ H (.ref a)) (ho : H a = some (.ins C dx fs)) (hn : fs.lookup m = none) (q : sp [.ref a] H Q E) : tMeth C m sp [] E ta tNil σ H Q := x_meth h0 ho hn av_nil q
theorem x_make {Q : VK} (h : AV tt σ H vs) (q : ∀ x dx, H x = none → H dx = none → dx ≠ x → Same H (upd (upd H dx (.own x)) x (.ins C dx [])) → sp (.ref x :: vs) (upd (upd H dx (.own x)) x (.ins C dx [])) (fun v H2 => v = .non ∧ Q (.ref x) H2) E) : tMake C sp [] E tt σ H Q :=
  h _ fun x dx nx ndx nex => by
    show sp (.ref x :: (vs ++ [])) _ _ E
    rw [List.append_nil]
    exact q x dx nx ndx nex fun b o e => by
      rw [upd_ne (ne_of_none e nx), upd_ne (ne_of_none e ndx)]
      exact e
theorem x_cb {r : List V → Hp → VK → Prop} {Q : VK} (h : AV tt σ H vs) (q : r vs H Q) : tCB r tt σ H Q := h _ q
/-! tests -/
theorem a_val {b : Bool} (h : Val ta σ H (.bl b)) : Ans (tTest ta) σ H b := fun _ q => h _ ⟨b, rfl, q⟩
theorem a_B {b : Bool} (h : Val ta σ H (.bl b)) : Ans (tB ta) σ H b := fun _ q => h _ ⟨b, rfl, q⟩
theorem a_and {p q : Bool} (h1 : Ans t σ H p) (h2 : p = true → Ans u σ H q) : Ans (tAnd t u) σ H (p && q) := by
  cases p with
  | true => exact ans_and h1 (h2 rfl)
  | false => exact ans_and0 h1
theorem a_or {p q : Bool} (h1 : Ans t σ H p) (h2 : p = false → Ans u σ H q) : Ans (tOr t u) σ H (p || q) := by
  cases p with
  | true => exact ans_or1 h1
  | false => exact ans_or h1 (h2 rfl)
theorem a_not {b : Bool} (h : Ans t σ H b) : Ans (tNot t) σ H (!b) := ans_not h
theorem a_to {b b' : Bool} (h : Ans t σ H b) (e : b = b') : Ans t σ H b' := e ▸ h
/-! statements -/
variable {D : Ends} {t1 t2 ts : TS} {f : Str}
theorem s_if {b : Bool} (h : Ans t σ H b) (h1 : b = true → t1 D σ H) (h2 : b = false → t2 D σ H) : tIfS t t1 t2 D σ H := by
  cases b with
  | true => exact st_yes h (h1 rfl)
  | false => exact st_no h (h2 rfl)
theorem x_ret (h : te σ H D.rt) : tRet te D σ H := h
theorem x_drop (h : te σ H fun _ H1 => D.nx σ H1) : tDrop te D σ H := h
theorem x_set {g : TG} (h : te σ H fun x H1 => g x σ H1 D.nx) : tAsg te g D σ H := h
theorem x_fld {tv : TE} (h : tv σ H fun y H1 => ta σ H1 fun x H2 => ∃ a C dx fs, x = .ref a ∧ H2 a = some (.ins C dx fs) ∧ Cls K C ∧ NoAttr K C f ∧ fs.length < 1000 ∧ D.nx σ (upd H2 a (.ins C dx (putF f y fs)))) : sFld K ta tv f D σ H := h
theorem s_asg {g : TG} (h : Val te σ H v) (q : g v σ H D.nx) : tAsg te g D σ H := h _ q
/-- a new list, a new tuple, handed back -/
theorem s_retL (h : AV tt σ H vs) (q : ∀ p, H p = none → D.rt (.ref p) (upd H p (.lst vs))) (hz : Nat.ble vs.length 1000 = true := by rfl) : tRet (tLst tt) D σ H := h _ ⟨Nat.le_trans (Nat.le_of_ble_eq_true hz) (by decide), q⟩
/-- self.f = value, an instance known -/
theorem s_fld {tv : TE} (hv : Val tv σ H y) (ha : Val ta σ H (.ref a)) (ho : H a = some (.ins C dx fs)) (hc : Cls K C) (hn : NoAttr K C f) (hl : fs.length < 1000) (q : D.nx σ (upd H a (.ins C dx (putF f y fs)))) : sFld K ta tv f D σ H :=
  st_fld hv ha ho hc hn hl q
/-- self.f = [] -/
theorem s_fld0 (ha : ∀ H, Val ta σ H (.ref a)) (ho : H a = some (.ins C dx fs)) (hc : Cls K C) (hn : NoAttr K C f) (hl : fs.length < 1000) (q : ∀ p, H p = none → p ≠ a → D.nx σ (upd (upd H p (.lst [])) a (.ins C dx (putF f (.ref p) fs)))) : sFld K ta (tLst tNil) f D σ H := by
  refine ⟨Nat.zero_le _, fun p hp => ?_⟩
  have hne : p ≠ a := (ne_of_none ho hp).symm
  refine ha _ _ ⟨a, C, dx, fs, rfl, ?_, hc, hn, hl, q p hp hne⟩
  rw [upd_ne hne.symm]
  exact ho
/-- xs.append(e) -/
theorem s_append (ha : Val ta σ H (.ref l)) (hl : H l = some (.lst xs)) (h : Val te σ H v) (hz : xs.length < 1000000) (k : D.nx σ (upd H l (.lst (xs ++ [v])))) : tDrop (tBM K "list" rAppend ta (tCons te tNil)) D σ H :=
  ha _ ⟨.inl ⟨rfl, xs, SqL.of hl⟩, h _ ⟨l, xs, v, rfl, rfl, hl, Nat.lt_of_lt_of_le hz (by decide), k⟩⟩
/-- xs.append((..)) -/
theorem s_appendT (ha : Val ta σ H (.ref l)) (hl : H l = some (.lst xs)) (h : AV tt σ H vs) (hz : xs.length < 1000000) (k : ∀ p, H p = none → p ≠ l → D.nx σ (upd (upd H p (.tup vs)) l (.lst (xs ++ [.ref p])))) (hv : Nat.ble vs.length 1000 = true := by rfl) :
    tDrop (tBM K "list" rAppend ta (tCons (tTup tt) tNil)) D σ H :=
  ha _ ⟨.inl ⟨rfl, xs, SqL.of hl⟩, h _ ⟨Nat.le_trans (Nat.le_of_ble_eq_true hv) (by decide), fun p hp => by
    have hne : p ≠ l := (ne_of_none hl hp).symm
    exact ⟨l, xs, .ref p, rfl, rfl, by rw [upd_ne hne.symm]; exact hl, Nat.lt_of_lt_of_le hz (by decide), k p hp hne⟩⟩⟩
/-! the same ahead of further statements -/
variable {us : TS}
theorem q_set {i : Nat} (h : Val te σ H v) (q : us D (σ.set i (some v)) H) : tSeq (tAsg te (gName i)) us D σ H := h _ q
theorem q_xset {i : Nat} (h : te σ H fun x H1 => us D (σ.set i (some x)) H1) : tSeq (tAsg te (gName i)) us D σ H := h
theorem q_xasg {g : TG} (h : te σ H fun x H1 => g x σ H1 (us D)) : tSeq (tAsg te g) us D σ H := h
theorem q_drop (h : Val te σ H v) (q : us D σ H) : tSeq (tDrop te) us D σ H := h _ q
theorem q_xdrop (h : te σ H fun _ H1 => us D σ H1) : tSeq (tDrop te) us D σ H := h
theorem q_fld {tv : TE} (hv : Val tv σ H y) (ha : Val ta σ H (.ref a)) (ho : H a = some (.ins C dx fs)) (hc : Cls K C) (hn : NoAttr K C f) (hl : fs.length < 1000) (q : us D σ (upd H a (.ins C dx (putF f y fs)))) : tSeq (sFld K ta tv f) us D σ H :=
  s_fld (D := { D with nx := us D }) hv ha ho hc hn hl q
theorem q_fld0 (ha : ∀ H, Val ta σ H (.ref a)) (ho : H a = some (.ins C dx fs)) (hc : Cls K C) (hn : NoAttr K C f) (hl : fs.length < 1000) (q : ∀ p, H p = none → p ≠ a → us D σ (upd (upd H p (.lst [])) a (.ins C dx (putF f (.ref p) fs)))) : tSeq (sFld K ta (tLst tNil) f) us D σ H :=
  s_fld0 (D := { D with nx := us D }) ha ho hc hn hl q
/-- self.f = (what makes a new object), self in the i-th slot -/
theorem q_xfld {i : Nat} {tv : TE} (h : tv σ H fun y H1 => ∃ v, σ[i]? = some (some v) ∧ ∃ a C dx fs, v = .ref a ∧ H1 a = some (.ins C dx fs) ∧ Cls K C ∧ NoAttr K C f ∧ fs.length < 1000 ∧ us D σ (upd H1 a (.ins C dx (putF f y fs)))) : tSeq (sFld K (tVar i) tv f) us D σ H := h
theorem q_append (ha : Val ta σ H (.ref l)) (hl : H l = some (.lst xs)) (h : Val te σ H v) (hz : xs.length < 1000000) (k : us D σ (upd H l (.lst (xs ++ [v])))) : tSeq (tDrop (tBM K "list" rAppend ta (tCons te tNil))) us D σ H :=
  s_append (D := { D with nx := us D }) ha hl h hz k
theorem q_appendT (ha : Val ta σ H (.ref l)) (hl : H l = some (.lst xs)) (h : AV tt σ H vs) (hz : xs.length < 1000000) (k : ∀ p, H p = none → p ≠ l → us D σ (upd (upd H p (.tup vs)) l (.lst (xs ++ [.ref p])))) (hv : Nat.ble vs.length 1000 = true := by rfl) :
    tSeq (tDrop (tBM K "list" rAppend ta (tCons (tTup tt) tNil))) us D σ H :=
  s_appendT (D := { D with nx := us D }) ha hl h hz k hv
theorem q_if {b : Bool} (h : Ans t σ H b) (h1 : b = true → t1 { D with nx := us D } σ H) (h2 : b = false → t2 { D with nx := us D } σ H) : tSeq (tIfS t t1 t2) us D σ H := s_if h h1 h2
/-- an if without else whose ways meet -/
theorem q_ifj {b : Bool} (R : Hp → Prop) (h : Ans t σ H b) (k : ∀ H', R H' → us D σ H') (h1 : b = true → (∀ H', R H' → us D σ H') → t1 { D with nx := us D } σ H) (h2 : b = false → R H) : tSeq (tIfS t t1 tNext) us D σ H := s_if h (fun e => h1 e k) (fun e => k H (h2 e))
/-- an if without else -/
theorem q_ifn {b : Bool} (h : Ans t σ H b) (h1 : b = true → t1 { D with nx := us D } σ H) (h2 : b = false → us D σ H) : tSeq (tIfS t t1 tNext) us D σ H := s_if h h1 h2
/-- rows.append((..)): a row more -/
theorem s_push {rs : List (List Int)} {row : List Int} (ha : Val ta σ H (.ref l)) (R : RowsAt H l rs) (h : AV tt σ H (row.map V.int)) (hz : rs.length < 1000000) (k : ∀ H', RowsAt H' l (rs ++ [row]) → Mv [l] H [l] H' → D.nx σ H') (hv : Nat.ble (row.map V.int).length 1000 = true := by rfl) :
    tDrop (tBM K "list" rAppend ta (tCons (tTup tt) tNil)) D σ H := by
  obtain ⟨as, h1, h2⟩ := R
  refine s_appendT ha h1 h (by rw [List.length_map, h2.len]; exact hz) (fun p hp hne => k _ ⟨as ++ [p], ?_, ?_⟩ ?_) hv
  · rw [upd_same, List.map_append]
    rfl
  · have m : Mv [l] H [l] (upd (upd H p (.tup (row.map V.int))) l (.lst (as.map V.ref ++ [.ref p]))) := ((Mv.refl [l] H).aside hp).setL (by simp) (by rw [upd_ne hne.symm]; exact h1)
    exact (m.tups h2).append (.cons (by rw [upd_ne hne, upd_same]) .nil)
  · exact ((Mv.refl [l] H).aside hp).setL (by simp) (by rw [upd_ne hne.symm]; exact h1)
theorem q_push {rs : List (List Int)} {row : List Int} (ha : Val ta σ H (.ref l)) (R : RowsAt H l rs) (h : AV tt σ H (row.map V.int)) (hz : rs.length < 1000000) (k : ∀ H', RowsAt H' l (rs ++ [row]) → Mv [l] H [l] H' → us D σ H') (hv : Nat.ble (row.map V.int).length 1000 = true := by rfl) :
    tSeq (tDrop (tBM K "list" rAppend ta (tCons (tTup tt) tNil))) us D σ H := s_push (D := { D with nx := us D }) ha R h hz k hv
/-- [(..)] as rows -/
theorem x_row1 {Q : VK} {row : List Int} (h : AV tt σ H (row.map V.int)) (q : ∀ H' r, RowsAt H' r [row] → H r = none → Same H H' → Q (.ref r) H') (hz : Nat.ble (row.map V.int).length 1000 = true := by rfl) : tLst (tCons (tTup tt) tNil) σ H Q :=
  x_lst1T h (fun p r hp hr npr => q _ r ⟨[p], by rw [upd_same]; rfl, .cons (by rw [upd_ne npr, upd_same]) .nil⟩ hr fun b o e => by
    rw [upd_ne (ne_of_none e hr), upd_ne (ne_of_none e hp)]
    exact e) hz
/-- rows.extend(more) -/
theorem r_extend {rs ss : List (List Int)} {r : Addr} {Q : VK} (R : RowsAt H l rs) (S : RowsAt H r ss) (hz : rs.length + ss.length < 1000000) (k : ∀ H', RowsAt H' l (rs ++ ss) → Mv [l] H [l] H' → Q .non H') : rExtend (.ref l) [.ref r] H Q := by
  obtain ⟨as, h1, h2⟩ := R
  obtain ⟨bs, h3, h4⟩ := S
  refine ⟨l, r, _, _, rfl, rfl, h1, h3, ?_, ?_⟩
  · rw [List.length_map, List.length_map, h2.len, h4.len]
    exact Nat.le_trans (Nat.le_of_lt hz) (by decide)
  · have m : Mv [l] H [l] (upd H l (.lst (as.map V.ref ++ bs.map V.ref))) := .updL (by simp) h1
    exact k _ ⟨as ++ bs, by rw [upd_same, List.map_append], (m.tups h2).append (m.tups h4)⟩ m
/-- for .. in list -/
theorem tFor_list {g : TG} (h : Val ta σ H (.ref a)) (hx : SqL K H a xs) (Pv : Nat → L2.St → Hp → Prop) (h0 : Pv 0 σ H) (hl : ∀ i σ' H', i ≤ xs.length → Pv i σ' H' → SqL K H' a xs)
    (hs : ∀ i x σ' H', xs[i]? = some x → Pv i σ' H' → g x σ' H' fun σ2 H2 => ts { D with nx := Pv (i + 1), ct := Pv (i + 1), bk := us D } σ2 H2) (hd : ∀ σ' H', Pv xs.length σ' H' → us D σ' H') : tSeq (tFor (iList K ta) g ts) us D σ H :=
  h _ ⟨a, rfl, ⟨xs, hx⟩, for_list (D := { D with nx := us D }) Pv h0 hl hs hd⟩
theorem s_for_list {g : TG} (h : Val ta σ H (.ref a)) (hx : SqL K H a xs) (Pv : Nat → L2.St → Hp → Prop) (h0 : Pv 0 σ H) (hl : ∀ i σ' H', i ≤ xs.length → Pv i σ' H' → SqL K H' a xs)
    (hs : ∀ i x σ' H', xs[i]? = some x → Pv i σ' H' → g x σ' H' fun σ2 H2 => ts { D with nx := Pv (i + 1), ct := Pv (i + 1), bk := D.nx } σ2 H2) (hd : ∀ σ' H', Pv xs.length σ' H' → D.nx σ' H') : tFor (iList K ta) g ts D σ H :=
  h _ ⟨a, rfl, ⟨xs, hx⟩, for_list Pv h0 hl hs hd⟩
theorem get_atI {xs : List V} {k : Nat} {i : Int} (e : i = (k : Int)) (h : xs[k]? = some v) : atI xs i = some v := at_of e h
theorem atI_end {xs : List V} (h : xs.getLast? = some v) : atI xs (-1) = some v := by
  obtain ⟨ys, rfl⟩ := List.getLast?_eq_some_iff.mp h
  exact atI_last ys v
end
end Tz
namespace Tz
open PySem PySem.Spec PyProof.Rows L2
/-! ### more of the kit: ranges, in, calls of calls -/
section
variable {K : PySem.W.Frag} {σ : L2.St} {H : Hp} {x y z v : V} {ta tb tc te : TE} {t u : TT} {tt : TA} {vs : List V} {a l : Addr} {xs : List V} {i j n : Int} {sp : Sp} {E : XK} {C dx : Addr} {m : Str} {fs : List (Str × V)} {D : Ends} {t1 t2 ts us : TS}
theorem x_lstX {Q : VK} (h : tt σ H fun xs H1 => xs.length ≤ sizeLine ∧ ∀ p, H1 p = none → Q (.ref p) (upd H1 p (.lst xs))) : tLst tt σ H Q := h
theorem x_tupX {Q : VK} (h : tt σ H fun xs H1 => xs.length ≤ sizeLine ∧ ∀ p, H1 p = none → Q (.ref p) (upd H1 p (.tup xs))) : tTup tt σ H Q := h
theorem x_methX {Q : VK} (h0 : Val ta σ H (.ref a)) (ho : H a = some (.ins C dx fs)) (hn : fs.lookup m = none) (h : tt σ H fun vs H2 => sp (.ref a :: vs) H2 Q E) : tMeth C m sp [] E ta tt σ H Q :=
  h0 _ ⟨a, dx, fs, rfl, ho, hn, by
    have e : (fun (vs : List V) H2 => sp (.ref a :: (vs ++ [])) H2 Q E) = fun vs H2 => sp (.ref a :: vs) H2 Q E := by
      funext vs H2
      rw [List.append_nil]
    show tt σ H (fun vs H2 => sp (.ref a :: (vs ++ [])) H2 Q E)
    rw [e]
    exact h⟩
theorem x_callX {Q : VK} (h : tt σ H fun vs H2 => sp vs H2 Q E) : tCall sp [] E tt σ H Q := by
  have e : (fun (vs : List V) H2 => sp (vs ++ []) H2 Q E) = fun vs H2 => sp vs H2 Q E := by
    funext vs H2
    rw [List.append_nil]
  show tt σ H (fun vs H2 => sp (vs ++ []) H2 Q E)
  rw [e]
  exact h
theorem x_consV {Q : List V → Hp → Prop} (h : Val ta σ H x) (q : tt σ H fun xs H2 => Q (x :: xs) H2) : tCons ta tt σ H Q := h _ q
theorem inV_ints (i : Int) (l : List Int) : inV (.int i) (l.map V.int) = decide (i ∈ l) := by
  unfold inV
  induction l with
  | nil => simp
  | cons b r ih =>
    rw [List.map_cons, List.any_cons, ih]
    show ((b == i) || decide (i ∈ r)) = decide (i ∈ b :: r)
    by_cases h : b = i
    · subst h
      simp
    · have h2 : (b == i) = false := by simpa using h
      rw [h2]
      simp [Ne.symm h]
theorem flat_ints (l : List Int) : (l.map V.int).all flatV = true := by
  induction l with
  | nil => rfl
  | cons b r ih =>
    rw [List.map_cons, List.all_cons, ih]
    rfl
/-- i in (..): the tuple is made -/
theorem x_inT {l : List Int} {Q : VK} (hx : Val ta σ H (.int i)) (hv : AV tt σ H (l.map V.int)) (q : ∀ H', Same H H' → Q (.bl (decide (i ∈ l))) H') (hz : Nat.ble (l.map V.int).length 1000 = true := by rfl) : tOp (rIn K false) ta (tTup tt) σ H Q := by
  refine hx _ (hv _ ⟨Nat.le_trans (Nat.le_of_ble_eq_true hz) (by decide), fun p hp => ?_⟩)
  refine ⟨p, l.map V.int, rfl, .inr (SqT.of upd_same), rfl, flat_ints l, ?_⟩
  show Q (.bl (if false = true then _ else inV (.int i) (l.map V.int))) _
  rw [if_neg (by decide), inV_ints]
  exact q _ (same_new hp)
theorem s_inT {l : List Int} (hx : Val ta σ H (.int i)) (hv : AV tt σ H (l.map V.int)) (h1 : ∀ H', Same H H' → i ∈ l → t1 D σ H') (h2 : ∀ H', Same H H' → i ∉ l → t2 D σ H') (hz : Nat.ble (l.map V.int).length 1000 = true := by rfl) :
    tIfS (tTest (tOp (rIn K false) ta (tTup tt))) t1 t2 D σ H := by
  refine x_inT hx hv (fun H' s => ⟨decide (i ∈ l), rfl, ?_⟩) hz
  by_cases h : i ∈ l
  · rw [decide_eq_true h]
    exact h1 H' s h
  · rw [decide_eq_false h]
    exact h2 H' s h
theorem q_inT {l : List Int} (hx : Val ta σ H (.int i)) (hv : AV tt σ H (l.map V.int)) (h1 : ∀ H', Same H H' → i ∈ l → t1 { D with nx := us D } σ H') (h2 : ∀ H', Same H H' → i ∉ l → us D σ H') (hz : Nat.ble (l.map V.int).length 1000 = true := by rfl) :
    tSeq (tIfS (tTest (tOp (rIn K false) ta (tTup tt))) t1 tNext) us D σ H := s_inT (D := { D with nx := us D }) hx hv h1 h2 hz
theorem v_fdiv (hj : CDiv i j) (ha : Val ta σ H (.int i)) (hb : Val tb σ H (.int j)) : Val (tOp (rI CDiv fun i j => .int (i / j)) ta tb) σ H (.int (i / j)) := val_op ha hb fun _ q => ⟨i, j, rfl, rfl, hj, q⟩
/-! tests that make objects -/
theorem a_callS {b : Bool} (h : AV tt σ H vs) (hs : ∀ Q : VK, (∀ H', Same H H' → Q (.bl b) H') → sp vs H Q E) : AnsH (tB (tCall sp [] E tt)) σ H b (Same H) := fun Q q => x_call h (hs _ fun H' s => ⟨b, rfl, q H' s⟩)
theorem a_notH {b : Bool} {p : Hp → Prop} (h : AnsH t σ H b p) : AnsH (tNot t) σ H (!b) p := fun Q q => h _ fun H' s => q H' s
theorem s_ifH {b : Bool} {p : Hp → Prop} (h : AnsH t σ H b p) (h1 : b = true → ∀ H', p H' → t1 D σ H') (h2 : b = false → ∀ H', p H' → t2 D σ H') : tIfS t t1 t2 D σ H := by
  cases b with
  | true => exact st_yesH h (h1 rfl)
  | false => exact st_noH h (h2 rfl)
theorem q_ifH {b : Bool} {p : Hp → Prop} (h : AnsH t σ H b p) (h1 : b = true → ∀ H', p H' → t1 { D with nx := us D } σ H') (h2 : b = false → ∀ H', p H' → us D σ H') : tSeq (tIfS t t1 tNext) us D σ H := s_ifH h h1 h2
theorem a_orH {b d : Bool} {p : Hp → Prop} (h : Ans t σ H b) (h2 : b = false → AnsH u σ H d p) (hp : p H) : AnsH (tOr t u) σ H (b || d) p := by
  intro Q q
  refine h _ ?_
  cases b with
  | true => exact q H hp
  | false => exact h2 rfl Q q
theorem ix_listK {X : Cx} {K : PySem.W.Frag} (h : X.K = K) : IxR X (rIxL K) := h ▸ ix_list
/-! ranges -/
theorem q_for1 {k : Nat} (h : Val ta σ H (.int n)) (hb : -(2 ^ 62) ≤ n ∧ n < 2 ^ 62) (Pv : Nat → L2.St → Hp → Prop) (h0 : Pv 0 σ H)
    (hs : ∀ (i : Nat) σ' H', i < n.toNat → Pv i σ' H' → ts { D with nx := Pv (i + 1), ct := Pv (i + 1), bk := us D } (σ'.set k (some (.int (i : Int)))) H') (hd : ∀ σ' H', Pv n.toNat σ' H' → us D σ' H') : tSeq (tFor (iRng1 (tCons ta tNil)) (gName k) ts) us D σ H :=
  h _ ⟨n, rfl, hb.1, hb.2, for_range (D := { D with nx := us D }) (lo := 0) (n := n.toNat) Pv h0 (fun i σ' H' hi p => by
    show ts { D with nx := Pv (i + 1), ct := Pv (i + 1), bk := us D } (σ'.set k (some (.int ((0 : Int) + (i : Int))))) H'
    rw [Int.zero_add]
    exact hs i σ' H' hi p) hd⟩
theorem q_for2 {k : Nat} (h1 : Val ta σ H (.int i)) (h2 : Val tb σ H (.int n)) (hb : -(2 ^ 62) ≤ i ∧ i < 2 ^ 62 ∧ -(2 ^ 62) ≤ n ∧ n < 2 ^ 62) (Pv : Nat → L2.St → Hp → Prop) (h0 : Pv 0 σ H)
    (hs : ∀ (d : Nat) σ' H', d < (n - i).toNat → Pv d σ' H' → ts { D with nx := Pv (d + 1), ct := Pv (d + 1), bk := us D } (σ'.set k (some (.int (i + (d : Int))))) H') (hd : ∀ σ' H', Pv (n - i).toNat σ' H' → us D σ' H') : tSeq (tFor (iRng2 (tCons ta (tCons tb tNil))) (gName k) ts) us D σ H :=
  h1 _ (h2 _ ⟨i, n, rfl, hb, for_range (D := { D with nx := us D }) (lo := i) (n := (n - i).toNat) Pv h0 (fun d σ' H' hi p => hs d σ' H' hi p) hd⟩)
/-- range(0, len, step) -/
theorem rgC {len : Nat} {c : Nat} (hc : 0 < c) (hc2 : c < 1000) (hl : len < 1000000) : RgC 0 (len : Int) (c : Int) ((len + c - 1) / c) := by
  have h1 : Builtin.Range.rangeSize 0 (len : Int) (c : Int) = (((len + c - 1) / c : Nat) : Int) := by
    unfold Builtin.Range.rangeSize
    rw [if_pos (by omega)]
    split
    · have e : len + c - 1 = (len - 1) + c := by omega
      rw [e, Nat.add_div_right _ hc]
      rw [Int.natCast_add, Int.natCast_ediv]
      have e2 : ((len : Int) - 0 - 1) = ((len - 1 : Nat) : Int) := by omega
      rw [e2]
      rfl
    · have e0 : len = 0 := by omega
      subst e0
      rw [Nat.div_eq_of_lt (by omega)]
      rfl
  have h2 : (len + c - 1) / c ≤ len + c := Nat.le_trans (Nat.div_le_self _ _) (by omega)
  refine ⟨by omega, by omega, ?_, h1⟩
  generalize (len + c - 1) / c = q at h1 h2
  unfold Builtin.Range.small
  simp only [h1, Builtin.Range.rangeFitsLong, Bool.and_eq_true, Bool.or_eq_true, decide_eq_true_eq, beq_iff_eq, if_pos (show (c : Int) > 0 by omega)]
  refine ⟨⟨?_, ?_⟩, ?_⟩ <;> omega
theorem q_for3 {k : Nat} {len st : Nat} (h1 : Val ta σ H (.int 0)) (h2 : Val tb σ H (.int (len : Int))) (h3 : Val tc σ H (.int (st : Int))) (hc : 0 < st) (hc2 : st < 1000) (hl : len < 1000000) (Pv : Nat → L2.St → Hp → Prop) (h0 : Pv 0 σ H)
    (hs : ∀ (d : Nat) σ' H', d < (len + st - 1) / st → Pv d σ' H' → ts { D with nx := Pv (d + 1), ct := Pv (d + 1), bk := us D } (σ'.set k (some (.int ((d * st : Nat) : Int)))) H') (hd : ∀ σ' H', Pv ((len + st - 1) / st) σ' H' → us D σ' H') : tSeq (tFor (iRng3 (tCons ta (tCons tb (tCons tc tNil)))) (gName k) ts) us D σ H :=
  h1 _ (h2 _ (h3 _ ⟨0, (len : Int), (st : Int), _, rfl, rgC hc hc2 hl, for_rangeC (D := { D with nx := us D }) Pv h0 (fun d σ' H' hi p => by
    have z := hs d σ' H' hi p
    have e : ((0 : Int) + (d : Int) * (st : Int)) = ((d * st : Nat) : Int) := by
      rw [Int.zero_add, Int.natCast_mul]
    show ts { D with nx := Pv (d + 1), ct := Pv (d + 1), bk := us D } (σ'.set k (some (.int ((0 : Int) + (d : Int) * (st : Int))))) H'
    rw [e]
    exact z) hd⟩))
end
end Tz
namespace Tz
open PySem PySem.Spec PyProof.Rows L2
section
variable {K : PySem.W.Frag} {σ : L2.St} {H : Hp} {x y z v : V} {ta tb tc te : TE} {t u : TT} {tt : TA} {vs : List V} {a l : Addr} {xs : List V} {i j n : Int} {D : Ends} {ts us : TS} {g : TG}
/-- an if without else whose ways meet, slots and all -/
theorem q_ifjs {t1 : TS} {b : Bool} (R : L2.St → Hp → Prop) (h : Ans t σ H b) (k : ∀ σ' H', R σ' H' → us D σ' H') (h1 : b = true → (∀ σ' H', R σ' H' → us D σ' H') → t1 { D with nx := us D } σ H) (h2 : b = false → R σ H) : tSeq (tIfS t t1 tNext) us D σ H := s_if h (fun e => h1 e k) (fun e => k σ H (h2 e))
/-- for .. in (a list that is made) -/
theorem q_forX (h : ta σ H fun x H1 => ∃ a xs, x = .ref a ∧ SqL K H1 a xs ∧ ∃ Pv : Nat → L2.St → Hp → Prop, Pv 0 σ H1 ∧ (∀ i σ' H', i ≤ xs.length → Pv i σ' H' → SqL K H' a xs) ∧
    (∀ i y σ' H', xs[i]? = some y → Pv i σ' H' → g y σ' H' fun σ2 H2 => ts { D with nx := Pv (i + 1), ct := Pv (i + 1), bk := us D } σ2 H2) ∧ (∀ σ' H', Pv xs.length σ' H' → us D σ' H'))
    (mono : ∀ Q Q' : VK, (∀ x H1, Q x H1 → Q' x H1) → ta σ H Q → ta σ H Q') : tSeq (tFor (iList K ta) g ts) us D σ H :=
  mono _ _ (fun x H1 ⟨a, xs, e, hs, Pv, h0, hl, hst, hd⟩ => ⟨a, e, ⟨xs, hs⟩, for_list (D := { D with nx := us D }) Pv h0 hl hst hd⟩) h
/-- [v for .. in range(n)] -/
theorem x_lc_rep {n : Nat} {v : V} {ws : List Nat} {k : Nat} {Q : VK} (h : Val ta σ H (.int (n : Int))) (hn : n < 100000) (hv : ∀ σ H, Val te σ H v) (hw : ∀ x, wipe ((wipe σ ws).set k (some x)) ws = wipe σ ws) (q : ∀ p, H p = none → Q (.ref p) (upd H p (.lst (List.replicate n v)))) :
    tLc (iRng1 (tCons ta tNil)) (gName k) tYes te ws σ H Q := by
  refine h _ ⟨(n : Int), rfl, by omega, by omega, fun D hD => ?_⟩
  refine lc_range (lo := 0) (n := ((n : Int)).toNat) (fun j H' => H' = upd H D (.lst (List.replicate j v))) rfl ?_ ?_
  · rintro j H' hj rfl
    refine ⟨hw _, ?_⟩
    refine x_each ?_
    refine hv _ _ _ ⟨_, upd_same, ?_, ?_⟩
    · rw [List.length_replicate]
      exact Nat.lt_of_lt_of_le (show j < 100000 by omega) (by decide)
    · rw [upd_upd, List.replicate_succ']
  · rintro H' rfl
    exact q D hD
/-- xs[i] = v -/
theorem q_setAt {ws : List Int} {k : Nat} {w : Int} (hv : Val te σ H (.int w)) (ho : Val ta σ H (.ref l)) (hi : Val tb σ H (.int (k : Int))) (hl : H l = some (.lst (ws.map V.int))) (hk : k < ws.length) (q : us D σ (upd H l (.lst ((ws.set k w).map V.int)))) : tSeq (tAsg te (gSub ta tb rSetL)) us D σ H :=
  hv _ (ho _ (hi _ ⟨l, _, (k : Int), k, rfl, rfl, hl, Evl.ixN_nat (by rw [List.length_map]; exact hk), by rw [← List.map_set]; exact q⟩))
theorem s_setAt {ws : List Int} {k : Nat} {w : Int} (hv : Val te σ H (.int w)) (ho : Val ta σ H (.ref l)) (hi : Val tb σ H (.int (k : Int))) (hl : H l = some (.lst (ws.map V.int))) (hk : k < ws.length) (q : D.nx σ (upd H l (.lst ((ws.set k w).map V.int)))) : tAsg te (gSub ta tb rSetL) D σ H :=
  hv _ (ho _ (hi _ ⟨l, _, (k : Int), k, rfl, rfl, hl, Evl.ixN_nat (by rw [List.length_map]; exact hk), by rw [← List.map_set]; exact q⟩))
end
end Tz
namespace Tz
open PySem PySem.Spec PyProof.Rows L2
abbrev s_has_client : Stmt := top 15
abbrev n_has_client : List Str := ["world", "client"]
theorem sc_has_client : FnScope n_has_client ["world", "client"] (defScope s_has_client) := ⟨rfl, rfl, rfl, by decide +kernel, rfl, by decide +kernel, by decide +kernel⟩
abbrev s_ask : Stmt := top 16
abbrev n_ask : List Str := ["world", "op", "client", "party"]
theorem sc_ask : FnScope n_ask ["world", "op", "client"] (defScope s_ask) := ⟨rfl, rfl, rfl, by decide +kernel, rfl, by decide +kernel, by decide +kernel⟩
abbrev s_turn_client : Stmt := top 17
abbrev n_turn_client : List Str := ["world", "op", "client", "party"]
theorem sc_turn_client : FnScope n_turn_client ["world", "op", "client"] (defScope s_turn_client) := ⟨rfl, rfl, rfl, by decide +kernel, rfl, by decide +kernel, by decide +kernel⟩
abbrev s_move_message : Stmt := top 18
abbrev n_move_message : List Str := ["world", "op", "index"]
theorem sc_move_message : FnScope n_move_message ["world", "op", "index"] (defScope s_move_message) := ⟨rfl, rfl, rfl, by decide +kernel, rfl, by decide +kernel, by decide +kernel⟩
abbrev s_turn_service : Stmt := top 19
abbrev n_turn_service : List Str := ["world", "op", "kept"]
theorem sc_turn_service : FnScope n_turn_service ["world", "op", "kept"] (defScope s_turn_service) := ⟨rfl, rfl, rfl, by decide +kernel, rfl, by decide +kernel, by decide +kernel⟩
abbrev s_calm : Stmt := top 20
abbrev n_calm : List Str := ["world", "rounds", "number"]
theorem sc_calm : FnScope n_calm ["world", "rounds"] (defScope s_calm) := ⟨rfl, rfl, rfl, by decide +kernel, rfl, by decide +kernel, by decide +kernel⟩
abbrev s_change : Stmt := top 21
abbrev n_change : List Str := ["world", "op", "second"]
theorem sc_change : FnScope n_change ["world", "op", "second"] (defScope s_change) := ⟨rfl, rfl, rfl, by decide +kernel, rfl, by decide +kernel, by decide +kernel⟩
abbrev s_is_step : Stmt := top 22
abbrev n_is_step : List Str := ["op", "argument"]
theorem sc_is_step : FnScope n_is_step ["op", "argument"] (defScope s_is_step) := ⟨rfl, rfl, rfl, by decide +kernel, rfl, by decide +kernel, by decide +kernel⟩
abbrev s_is_step_list : Stmt := top 23
abbrev n_is_step_list : List Str := ["steps", "at"]
theorem sc_is_step_list : FnScope n_is_step_list ["steps"] (defScope s_is_step_list) := ⟨rfl, rfl, rfl, by decide +kernel, rfl, by decide +kernel, by decide +kernel⟩
abbrev s_run_steps : Stmt := top 24
abbrev n_run_steps : List Str := ["world", "steps", "performed", "refused", "at", "answer"]
theorem sc_run_steps : FnScope n_run_steps ["world", "steps"] (defScope s_run_steps) := ⟨rfl, rfl, rfl, by decide +kernel, rfl, by decide +kernel, by decide +kernel⟩
abbrev s_is_event : Stmt := top 32
abbrev n_is_event : List Str := ["kind", "client", "boot", "nonce", "stamp"]
theorem sc_is_event : FnScope n_is_event ["kind", "client", "boot", "nonce", "stamp"] (defScope s_is_event) := ⟨rfl, rfl, rfl, by decide +kernel, rfl, by decide +kernel, by decide +kernel⟩
abbrev s_is_event_list : Stmt := top 33
abbrev n_is_event_list : List Str := ["numbers", "at"]
theorem sc_is_event_list : FnScope n_is_event_list ["numbers"] (defScope s_is_event_list) := ⟨rfl, rfl, rfl, by decide +kernel, rfl, by decide +kernel, by decide +kernel⟩
abbrev s_events_of : Stmt := top 34
abbrev n_events_of : List Str := ["numbers", "at"]
theorem sc_events_of : FnScope n_events_of ["numbers"] (defScope s_events_of) := ⟨rfl, rfl, rfl, by decide +kernel, rfl, by decide +kernel, by decide +kernel⟩
abbrev s_last_request : Stmt := top 35
abbrev n_last_request : List Str := ["events", "at", "client", "found", "place"]
theorem sc_last_request : FnScope n_last_request ["events", "at", "client"] (defScope s_last_request) := ⟨rfl, rfl, rfl, by decide +kernel, rfl, by decide +kernel, by decide +kernel⟩
abbrev s_is_unanswered : Stmt := top 36
abbrev n_is_unanswered : List Str := ["events", "at", "last", "client", "place"]
theorem sc_is_unanswered : FnScope n_is_unanswered ["events", "at", "last"] (defScope s_is_unanswered) := ⟨rfl, rfl, rfl, by decide +kernel, rfl, by decide +kernel, by decide +kernel⟩
abbrev s_was_received : Stmt := top 37
abbrev n_was_received : List Str := ["events", "at", "stamp", "place"]
theorem sc_was_received : FnScope n_was_received ["events", "at", "stamp"] (defScope s_was_received) := ⟨rfl, rfl, rfl, by decide +kernel, rfl, by decide +kernel, by decide +kernel⟩
abbrev s_highest_received : Stmt := top 38
abbrev n_highest_received : List Str := ["events", "at", "highest", "place"]
theorem sc_highest_received : FnScope n_highest_received ["events", "at"] (defScope s_highest_received) := ⟨rfl, rfl, rfl, by decide +kernel, rfl, by decide +kernel, by decide +kernel⟩
abbrev s_is_right_request : Stmt := top 39
abbrev n_is_right_request : List Str := ["events", "at", "last", "old_boot", "old_nonce", "kind", "client", "boot", "nonce", "stamp"]
theorem sc_is_right_request : FnScope n_is_right_request ["events", "at"] (defScope s_is_right_request) := ⟨rfl, rfl, rfl, by decide +kernel, rfl, by decide +kernel, by decide +kernel⟩
abbrev s_fault_of_receipt : Stmt := top 40
abbrev n_fault_of_receipt : List Str := ["events", "at", "last", "kind", "client", "boot", "nonce", "stamp"]
theorem sc_fault_of_receipt : FnScope n_fault_of_receipt ["events", "at"] (defScope s_fault_of_receipt) := ⟨rfl, rfl, rfl, by decide +kernel, rfl, by decide +kernel, by decide +kernel⟩
abbrev s_fault_of : Stmt := top 41
abbrev n_fault_of : List Str := ["events", "at"]
theorem sc_fault_of : FnScope n_fault_of ["events", "at"] (defScope s_fault_of) := ⟨rfl, rfl, rfl, by decide +kernel, rfl, by decide +kernel, by decide +kernel⟩
abbrev s_verdict : Stmt := top 42
abbrev n_verdict : List Str := ["events", "at", "fault"]
theorem sc_verdict : FnScope n_verdict ["events"] (defScope s_verdict) := ⟨rfl, rfl, rfl, by decide +kernel, rfl, by decide +kernel, by decide +kernel⟩
abbrev s_judge : Stmt := top 43
abbrev n_judge : List Str := ["numbers"]
theorem sc_judge : FnScope n_judge ["numbers"] (defScope s_judge) := ⟨rfl, rfl, rfl, by decide +kernel, rfl, by decide +kernel, by decide +kernel⟩
abbrev s_truth : Stmt := top 50
abbrev n_truth : List Str := ["yes"]
theorem sc_truth : FnScope n_truth ["yes"] (defScope s_truth) := ⟨rfl, rfl, rfl, by decide +kernel, rfl, by decide +kernel, by decide +kernel⟩
abbrev s_page : Stmt := top 51
abbrev n_page : List Str := ["rows", "first", "total", "shown", "answer", "at"]
theorem sc_page : FnScope n_page ["rows", "first"] (defScope s_page) := ⟨rfl, rfl, rfl, by decide +kernel, rfl, by decide +kernel, by decide +kernel⟩
abbrev s_get_service : Stmt := top 52
abbrev n_get_service : List Str := ["world", "service", "stamp", "disk"]
theorem sc_get_service : FnScope n_get_service ["world"] (defScope s_get_service) := ⟨rfl, rfl, rfl, by decide +kernel, rfl, by decide +kernel, by decide +kernel⟩
abbrev s_get_client : Stmt := top 53
abbrev n_get_client : List Str := ["world", "client", "party"]
theorem sc_get_client : FnScope n_get_client ["world", "client"] (defScope s_get_client) := ⟨rfl, rfl, rfl, by decide +kernel, rfl, by decide +kernel, by decide +kernel⟩
abbrev s_history : Stmt := top 54
abbrev n_history : List Str := ["world", "rows", "kind", "life", "client", "boot", "nonce", "stamp"]
theorem sc_history : FnScope n_history ["world"] (defScope s_history) := ⟨rfl, rfl, rfl, by decide +kernel, rfl, by decide +kernel, by decide +kernel⟩
abbrev s_order : Stmt := top 55
abbrev n_order : List Str := ["world", "turned", "rows", "kind", "life", "client", "boot", "nonce", "stamp"]
theorem sc_order : FnScope n_order ["world"] (defScope s_order) := ⟨rfl, rfl, rfl, by decide +kernel, rfl, by decide +kernel, by decide +kernel⟩
abbrev s_get_statistics : Stmt := top 56
abbrev n_get_statistics : List Str := ["world", "counts", "highest", "row", "kind"]
theorem sc_get_statistics : FnScope n_get_statistics ["world"] (defScope s_get_statistics) := ⟨rfl, rfl, rfl, by decide +kernel, rfl, by decide +kernel, by decide +kernel⟩
abbrev s_get_restart_values : Stmt := top 57
abbrev n_get_restart_values : List Str := ["world", "values"]
theorem sc_get_restart_values : FnScope n_get_restart_values ["world"] (defScope s_get_restart_values) := ⟨rfl, rfl, rfl, by decide +kernel, rfl, by decide +kernel, by decide +kernel⟩
abbrev s_Plan_init : Stmt := inClass (top 72) 0
abbrev n_Plan_init : List Str := ["self", "client"]
theorem sc_Plan_init : FnScope n_Plan_init ["self"] (defScope s_Plan_init) := ⟨rfl, rfl, rfl, by decide +kernel, rfl, by decide +kernel, by decide +kernel⟩
abbrev s_Plan_step : Stmt := inClass (top 72) 1
abbrev n_Plan_step : List Str := ["self", "code", "argument"]
theorem sc_Plan_step : FnScope n_Plan_step ["self", "code", "argument"] (defScope s_Plan_step) := ⟨rfl, rfl, rfl, by decide +kernel, rfl, by decide +kernel, by decide +kernel⟩
abbrev s_Plan_boot_up : Stmt := inClass (top 72) 2
abbrev n_Plan_boot_up : List Str := ["self", "client", "boot", "number"]
theorem sc_Plan_boot_up : FnScope n_Plan_boot_up ["self", "client", "boot"] (defScope s_Plan_boot_up) := ⟨rfl, rfl, rfl, by decide +kernel, rfl, by decide +kernel, by decide +kernel⟩
abbrev s_Plan_plan_request : Stmt := inClass (top 72) 3
abbrev n_Plan_plan_request : List Str := ["self", "client", "boot"]
theorem sc_Plan_plan_request : FnScope n_Plan_plan_request ["self", "client", "boot"] (defScope s_Plan_plan_request) := ⟨rfl, rfl, rfl, by decide +kernel, rfl, by decide +kernel, by decide +kernel⟩
abbrev s_Plan_make_stamp : Stmt := inClass (top 72) 4
abbrev n_Plan_make_stamp : List Str := ["self", "client"]
theorem sc_Plan_make_stamp : FnScope n_Plan_make_stamp ["self", "client"] (defScope s_Plan_make_stamp) := ⟨rfl, rfl, rfl, by decide +kernel, rfl, by decide +kernel, by decide +kernel⟩
abbrev s_Plan_plan_pending : Stmt := inClass (top 72) 5
abbrev n_Plan_plan_pending : List Str := ["self", "stamp", "place"]
theorem sc_Plan_plan_pending : FnScope n_Plan_plan_pending ["self", "stamp"] (defScope s_Plan_plan_pending) := ⟨rfl, rfl, rfl, by decide +kernel, rfl, by decide +kernel, by decide +kernel⟩
abbrev s_Plan_pass_stamp : Stmt := inClass (top 72) 6
abbrev n_Plan_pass_stamp : List Str := ["self", "stamp", "owner", "client"]
theorem sc_Plan_pass_stamp : FnScope n_Plan_pass_stamp ["self", "stamp", "owner", "client"] (defScope s_Plan_pass_stamp) := ⟨rfl, rfl, rfl, by decide +kernel, rfl, by decide +kernel, by decide +kernel⟩
abbrev s_Plan_plan_new : Stmt := inClass (top 72) 7
abbrev n_Plan_plan_new : List Str := ["self", "events", "client", "stamp", "passed"]
theorem sc_Plan_plan_new : FnScope n_Plan_plan_new ["self", "events", "client", "stamp"] (defScope s_Plan_plan_new) := ⟨rfl, rfl, rfl, by decide +kernel, rfl, by decide +kernel, by decide +kernel⟩
abbrev s_owner_of : Stmt := top 73
abbrev n_owner_of : List Str := ["events", "stamp", "event"]
theorem sc_owner_of : FnScope n_owner_of ["events", "stamp"] (defScope s_owner_of) := ⟨rfl, rfl, rfl, by decide +kernel, rfl, by decide +kernel, by decide +kernel⟩
abbrev s_is_too_large : Stmt := top 74
abbrev n_is_too_large : List Str := ["events", "event"]
theorem sc_is_too_large : FnScope n_is_too_large ["events"] (defScope s_is_too_large) := ⟨rfl, rfl, rfl, by decide +kernel, rfl, by decide +kernel, by decide +kernel⟩
abbrev s_planned : Stmt := top 75
abbrev n_planned : List Str := ["events", "plan", "kind", "client", "boot", "nonce", "stamp"]
theorem sc_planned : FnScope n_planned ["events"] (defScope s_planned) := ⟨rfl, rfl, rfl, by decide +kernel, rfl, by decide +kernel, by decide +kernel⟩
abbrev s_schedule : Stmt := top 76
abbrev n_schedule : List Str := ["numbers", "events", "steps"]
theorem sc_schedule : FnScope n_schedule ["numbers"] (defScope s_schedule) := ⟨rfl, rfl, rfl, by decide +kernel, rfl, by decide +kernel, by decide +kernel⟩
abbrev s_Party_init : Stmt := inClass (top 78) 0
abbrev n_Party_init : List Str := ["self"]
theorem sc_Party_init : FnScope n_Party_init ["self"] (defScope s_Party_init) := ⟨rfl, rfl, rfl, by decide +kernel, rfl, by decide +kernel, by decide +kernel⟩
abbrev s_Party_ask : Stmt := inClass (top 78) 1
abbrev n_Party_ask : List Str := ["self"]
theorem sc_Party_ask : FnScope n_Party_ask ["self"] (defScope s_Party_ask) := ⟨rfl, rfl, rfl, by decide +kernel, rfl, by decide +kernel, by decide +kernel⟩
abbrev s_Party_accepts : Stmt := inClass (top 78) 2
abbrev n_Party_accepts : List Str := ["self", "boot", "nonce"]
theorem sc_Party_accepts : FnScope n_Party_accepts ["self", "boot", "nonce"] (defScope s_Party_accepts) := ⟨rfl, rfl, rfl, by decide +kernel, rfl, by decide +kernel, by decide +kernel⟩
abbrev s_Party_receive : Stmt := inClass (top 78) 3
abbrev n_Party_receive : List Str := ["self", "stamp"]
theorem sc_Party_receive : FnScope n_Party_receive ["self", "stamp"] (defScope s_Party_receive) := ⟨rfl, rfl, rfl, by decide +kernel, rfl, by decide +kernel, by decide +kernel⟩
abbrev s_Party_crash : Stmt := inClass (top 78) 4
abbrev n_Party_crash : List Str := ["self"]
theorem sc_Party_crash : FnScope n_Party_crash ["self"] (defScope s_Party_crash) := ⟨rfl, rfl, rfl, by decide +kernel, rfl, by decide +kernel, by decide +kernel⟩
abbrev s_Party_restart : Stmt := inClass (top 78) 5
abbrev n_Party_restart : List Str := ["self"]
theorem sc_Party_restart : FnScope n_Party_restart ["self"] (defScope s_Party_restart) := ⟨rfl, rfl, rfl, by decide +kernel, rfl, by decide +kernel, by decide +kernel⟩
abbrev s_Party_last_received : Stmt := inClass (top 78) 6
abbrev n_Party_last_received : List Str := ["self"]
theorem sc_Party_last_received : FnScope n_Party_last_received ["self"] (defScope s_Party_last_received) := ⟨rfl, rfl, rfl, by decide +kernel, rfl, by decide +kernel, by decide +kernel⟩
abbrev s_Party_twin : Stmt := inClass (top 78) 7
abbrev n_Party_twin : List Str := ["self", "other"]
theorem sc_Party_twin : FnScope n_Party_twin ["self"] (defScope s_Party_twin) := ⟨rfl, rfl, rfl, by decide +kernel, rfl, by decide +kernel, by decide +kernel⟩
abbrev s_Disk_init : Stmt := inClass (top 80) 0
abbrev n_Disk_init : List Str := ["self", "forced", "unforced"]
theorem sc_Disk_init : FnScope n_Disk_init ["self", "forced", "unforced"] (defScope s_Disk_init) := ⟨rfl, rfl, rfl, by decide +kernel, rfl, by decide +kernel, by decide +kernel⟩
abbrev s_Disk_current : Stmt := inClass (top 80) 1
abbrev n_Disk_current : List Str := ["self"]
theorem sc_Disk_current : FnScope n_Disk_current ["self"] (defScope s_Disk_current) := ⟨rfl, rfl, rfl, by decide +kernel, rfl, by decide +kernel, by decide +kernel⟩
abbrev s_Disk_write : Stmt := inClass (top 80) 2
abbrev n_Disk_write : List Str := ["self", "limit"]
theorem sc_Disk_write : FnScope n_Disk_write ["self", "limit"] (defScope s_Disk_write) := ⟨rfl, rfl, rfl, by decide +kernel, rfl, by decide +kernel, by decide +kernel⟩
abbrev s_Disk_force : Stmt := inClass (top 80) 3
abbrev n_Disk_force : List Str := ["self"]
theorem sc_Disk_force : FnScope n_Disk_force ["self"] (defScope s_Disk_force) := ⟨rfl, rfl, rfl, by decide +kernel, rfl, by decide +kernel, by decide +kernel⟩
abbrev s_Disk_crash : Stmt := inClass (top 80) 4
abbrev n_Disk_crash : List Str := ["self", "kept", "survivors"]
theorem sc_Disk_crash : FnScope n_Disk_crash ["self", "kept"] (defScope s_Disk_crash) := ⟨rfl, rfl, rfl, by decide +kernel, rfl, by decide +kernel, by decide +kernel⟩
abbrev s_Disk_held : Stmt := inClass (top 80) 5
abbrev n_Disk_held : List Str := ["self"]
theorem sc_Disk_held : FnScope n_Disk_held ["self"] (defScope s_Disk_held) := ⟨rfl, rfl, rfl, by decide +kernel, rfl, by decide +kernel, by decide +kernel⟩
abbrev s_Disk_twin : Stmt := inClass (top 80) 6
abbrev n_Disk_twin : List Str := ["self"]
theorem sc_Disk_twin : FnScope n_Disk_twin ["self"] (defScope s_Disk_twin) := ⟨rfl, rfl, rfl, by decide +kernel, rfl, by decide +kernel, by decide +kernel⟩
abbrev s_Service_init : Stmt := inClass (top 88) 0
abbrev n_Service_init : List Str := ["self"]
theorem sc_Service_init : FnScope n_Service_init ["self"] (defScope s_Service_init) := ⟨rfl, rfl, rfl, by decide +kernel, rfl, by decide +kernel, by decide +kernel⟩
abbrev s_Service_write_if_needed : Stmt := inClass (top 88) 1
abbrev n_Service_write_if_needed : List Str := ["self", "reserve", "limit"]
theorem sc_Service_write_if_needed : FnScope n_Service_write_if_needed ["self", "reserve"] (defScope s_Service_write_if_needed) := ⟨rfl, rfl, rfl, by decide +kernel, rfl, by decide +kernel, by decide +kernel⟩
abbrev s_Service_serve : Stmt := inClass (top 88) 2
abbrev n_Service_serve : List Str := ["self", "message", "reserve", "rows", "client", "boot", "nonce"]
theorem sc_Service_serve : FnScope n_Service_serve ["self", "message", "reserve"] (defScope s_Service_serve) := ⟨rfl, rfl, rfl, by decide +kernel, rfl, by decide +kernel, by decide +kernel⟩
abbrev s_Service_force : Stmt := inClass (top 88) 3
abbrev n_Service_force : List Str := ["self", "rows", "reply"]
theorem sc_Service_force : FnScope n_Service_force ["self"] (defScope s_Service_force) := ⟨rfl, rfl, rfl, by decide +kernel, rfl, by decide +kernel, by decide +kernel⟩
abbrev s_Service_crash : Stmt := inClass (top 88) 4
abbrev n_Service_crash : List Str := ["self", "kept"]
theorem sc_Service_crash : FnScope n_Service_crash ["self", "kept"] (defScope s_Service_crash) := ⟨rfl, rfl, rfl, by decide +kernel, rfl, by decide +kernel, by decide +kernel⟩
abbrev s_Service_restart : Stmt := inClass (top 88) 5
abbrev n_Service_restart : List Str := ["self"]
theorem sc_Service_restart : FnScope n_Service_restart ["self"] (defScope s_Service_restart) := ⟨rfl, rfl, rfl, by decide +kernel, rfl, by decide +kernel, by decide +kernel⟩
abbrev s_Service_twin : Stmt := inClass (top 88) 6
abbrev n_Service_twin : List Str := ["self", "other"]
theorem sc_Service_twin : FnScope n_Service_twin ["self"] (defScope s_Service_twin) := ⟨rfl, rfl, rfl, by decide +kernel, rfl, by decide +kernel, by decide +kernel⟩
abbrev s_World_init : Stmt := inClass (top 93) 0
abbrev n_World_init : List Str := ["self", "reserve", "many", "number"]
theorem sc_World_init : FnScope n_World_init ["self", "reserve", "many"] (defScope s_World_init) := ⟨rfl, rfl, rfl, by decide +kernel, rfl, by decide +kernel, by decide +kernel⟩
abbrev s_World_send_request : Stmt := inClass (top 93) 1
abbrev n_World_send_request : List Str := ["self", "client", "party"]
theorem sc_World_send_request : FnScope n_World_send_request ["self", "client"] (defScope s_World_send_request) := ⟨rfl, rfl, rfl, by decide +kernel, rfl, by decide +kernel, by decide +kernel⟩
abbrev s_World_make_request : Stmt := inClass (top 93) 2
abbrev n_World_make_request : List Str := ["self", "client", "party"]
theorem sc_World_make_request : FnScope n_World_make_request ["self", "client"] (defScope s_World_make_request) := ⟨rfl, rfl, rfl, by decide +kernel, rfl, by decide +kernel, by decide +kernel⟩
abbrev s_World_take : Stmt := inClass (top 93) 3
abbrev n_World_take : List Str := ["self", "index"]
theorem sc_World_take : FnScope n_World_take ["self", "index"] (defScope s_World_take) := ⟨rfl, rfl, rfl, by decide +kernel, rfl, by decide +kernel, by decide +kernel⟩
abbrev s_World_arrive : Stmt := inClass (top 93) 4
abbrev n_World_arrive : List Str := ["self", "message"]
theorem sc_World_arrive : FnScope n_World_arrive ["self", "message"] (defScope s_World_arrive) := ⟨rfl, rfl, rfl, by decide +kernel, rfl, by decide +kernel, by decide +kernel⟩
abbrev s_World_arrive_request : Stmt := inClass (top 93) 5
abbrev n_World_arrive_request : List Str := ["self", "message", "stamp"]
theorem sc_World_arrive_request : FnScope n_World_arrive_request ["self", "message"] (defScope s_World_arrive_request) := ⟨rfl, rfl, rfl, by decide +kernel, rfl, by decide +kernel, by decide +kernel⟩
abbrev s_World_arrive_reply : Stmt := inClass (top 93) 6
abbrev n_World_arrive_reply : List Str := ["self", "message", "client", "boot", "nonce", "stamp", "party"]
theorem sc_World_arrive_reply : FnScope n_World_arrive_reply ["self", "message"] (defScope s_World_arrive_reply) := ⟨rfl, rfl, rfl, by decide +kernel, rfl, by decide +kernel, by decide +kernel⟩
abbrev s_World_force : Stmt := inClass (top 93) 7
abbrev n_World_force : List Str := ["self", "leaving"]
theorem sc_World_force : FnScope n_World_force ["self"] (defScope s_World_force) := ⟨rfl, rfl, rfl, by decide +kernel, rfl, by decide +kernel, by decide +kernel⟩
abbrev s_World_crash_service : Stmt := inClass (top 93) 8
abbrev n_World_crash_service : List Str := ["self", "kept"]
theorem sc_World_crash_service : FnScope n_World_crash_service ["self", "kept"] (defScope s_World_crash_service) := ⟨rfl, rfl, rfl, by decide +kernel, rfl, by decide +kernel, by decide +kernel⟩
abbrev s_World_restart_service : Stmt := inClass (top 93) 9
abbrev n_World_restart_service : List Str := ["self"]
theorem sc_World_restart_service : FnScope n_World_restart_service ["self"] (defScope s_World_restart_service) := ⟨rfl, rfl, rfl, by decide +kernel, rfl, by decide +kernel, by decide +kernel⟩
abbrev s_World_calm_round : Stmt := inClass (top 93) 10
abbrev n_World_calm_round : List Str := ["self", "arriving", "message"]
theorem sc_World_calm_round : FnScope n_World_calm_round ["self"] (defScope s_World_calm_round) := ⟨rfl, rfl, rfl, by decide +kernel, rfl, by decide +kernel, by decide +kernel⟩
abbrev s_World_twin : Stmt := inClass (top 93) 11
abbrev n_World_twin : List Str := ["self", "other", "party"]
theorem sc_World_twin : FnScope n_World_twin ["self"] (defScope s_World_twin) := ⟨rfl, rfl, rfl, by decide +kernel, rfl, by decide +kernel, by decide +kernel⟩
abbrev s_is_place : Stmt := top 114
abbrev n_is_place : List Str := ["number"]
theorem sc_is_place : FnScope n_is_place ["number"] (defScope s_is_place) := ⟨rfl, rfl, rfl, by decide +kernel, rfl, by decide +kernel, by decide +kernel⟩
abbrev s_open_world : Stmt := top 115
abbrev n_open_world : List Str := ["places", "at", "reserve", "many"]
theorem sc_open_world : FnScope n_open_world ["places", "at", "reserve", "many"] (defScope s_open_world) := ⟨rfl, rfl, rfl, by decide +kernel, rfl, by decide +kernel, by decide +kernel⟩
abbrev s_copy_world : Stmt := top 116
abbrev n_copy_world : List Str := ["places", "source", "target"]
theorem sc_copy_world : FnScope n_copy_world ["places", "source", "target"] (defScope s_copy_world) := ⟨rfl, rfl, rfl, by decide +kernel, rfl, by decide +kernel, by decide +kernel⟩
abbrev s_is_second_out : Stmt := top 117
abbrev n_is_second_out : List Str := ["op", "second"]
theorem sc_is_second_out : FnScope n_is_second_out ["op", "second"] (defScope s_is_second_out) := ⟨rfl, rfl, rfl, by decide +kernel, rfl, by decide +kernel, by decide +kernel⟩
abbrev s_rows_of : Stmt := top 118
abbrev n_rows_of : List Str := ["world", "op"]
theorem sc_rows_of : FnScope n_rows_of ["world", "op"] (defScope s_rows_of) := ⟨rfl, rfl, rfl, by decide +kernel, rfl, by decide +kernel, by decide +kernel⟩
abbrev s_look : Stmt := top 119
abbrev n_look : List Str := ["world", "op", "second"]
theorem sc_look : FnScope n_look ["world", "op", "second"] (defScope s_look) := ⟨rfl, rfl, rfl, by decide +kernel, rfl, by decide +kernel, by decide +kernel⟩
abbrev s_in_world : Stmt := top 120
abbrev n_in_world : List Str := ["places", "op", "at", "second", "row", "world"]
theorem sc_in_world : FnScope n_in_world ["places", "op", "at", "second", "row"] (defScope s_in_world) := ⟨rfl, rfl, rfl, by decide +kernel, rfl, by decide +kernel, by decide +kernel⟩
abbrev s_answer_of : Stmt := top 121
abbrev n_answer_of : List Str := ["places", "op", "numbers", "row", "second"]
theorem sc_answer_of : FnScope n_answer_of ["places", "op", "numbers", "row"] (defScope s_answer_of) := ⟨rfl, rfl, rfl, by decide +kernel, rfl, by decide +kernel, by decide +kernel⟩
abbrev s_has_row : Stmt := top 122
abbrev n_has_row : List Str := ["op"]
theorem sc_has_row : FnScope n_has_row ["op"] (defScope s_has_row) := ⟨rfl, rfl, rfl, by decide +kernel, rfl, by decide +kernel, by decide +kernel⟩
abbrev s_answers : Stmt := top 123
abbrev n_answers : List Str := ["calls", "places", "found", "at", "op", "start", "numbers", "row", "answer", "number"]
theorem sc_answers : FnScope n_answers ["calls"] (defScope s_answers) := ⟨rfl, rfl, rfl, by decide +kernel, rfl, by decide +kernel, by decide +kernel⟩
/-- the addresses of the classes and of the table COUNTS -/
structure CA where
  dk : Addr
  py : Addr
  sv : Addr
  wd : Addr
  pl : Addr
  co : Addr
structure Txt (K : PySem.W.Frag) (mg : Str → Option Value) (c : CA) : Prop where
  c_dk : Cls K c.dk
  a_dk_forced : NoAttr K c.dk "forced"
  a_dk_unforced : NoAttr K c.dk "unforced"
  c_py : Cls K c.py
  a_py_up : NoAttr K c.py "up"
  a_py_waiting : NoAttr K c.py "waiting"
  a_py_boot : NoAttr K c.py "boot"
  a_py_nonce : NoAttr K c.py "nonce"
  a_py_received : NoAttr K c.py "received"
  c_sv : Cls K c.sv
  a_sv_up : NoAttr K c.sv "up"
  a_sv_disk : NoAttr K c.sv "disk"
  a_sv_next_stamp : NoAttr K c.sv "next_stamp"
  a_sv_outbox : NoAttr K c.sv "outbox"
  a_sv_life : NoAttr K c.sv "life"
  c_wd : Cls K c.wd
  a_wd_reserve : NoAttr K c.wd "reserve"
  a_wd_service : NoAttr K c.wd "service"
  a_wd_parties : NoAttr K c.wd "parties"
  a_wd_network : NoAttr K c.wd "network"
  a_wd_trace : NoAttr K c.wd "trace"
  c_pl : Cls K c.pl
  a_pl_steps : NoAttr K c.pl "steps"
  a_pl_boots : NoAttr K c.pl "boots"
  a_pl_next_stamp : NoAttr K c.pl "next_stamp"
  a_pl_pending : NoAttr K c.pl "pending"
  z_len : mg "len" = none
  z_min : mg "min" = none
  z_max : mg "max" = none
  z_range : mg "range" = none
  z_list : mg "list" = none
  z_sorted : mg "sorted" = none
  g_REQUEST_changes : ∃ t, mg "REQUEST_changes" = some (.int 2 t)
  g_CRASH_CLIENT : ∃ t, mg "CRASH_CLIENT" = some (.int 10 t)
  g_DELIVER : ∃ t, mg "DELIVER" = some (.int 4 t)
  g_DROP : ∃ t, mg "DROP" = some (.int 5 t)
  g_RESTART_SERVICE : ∃ t, mg "RESTART_SERVICE" = some (.int 9 t)
  g_FORCE : ∃ t, mg "FORCE" = some (.int 7 t)
  g_REPEAT : ∃ t, mg "REPEAT" = some (.int 3 t)
  g_DUPLICATE : ∃ t, mg "DUPLICATE" = some (.int 6 t)
  g_CRASH_SERVICE : ∃ t, mg "CRASH_SERVICE" = some (.int 8 t)
  g_RESTART_CLIENT : ∃ t, mg "RESTART_CLIENT" = some (.int 11 t)
  g_CALM_changes : ∃ t, mg "CALM_changes" = some (.int 12 t)
  g_MOST_ROUNDS_changes : ∃ t, mg "MOST_ROUNDS_changes" = some (.int 20 t)
  g_MOST_STEP_NUMBERS : ∃ t, mg "MOST_STEP_NUMBERS" = some (.int 1400 t)
  g_FIRST_STEP : ∃ t, mg "FIRST_STEP" = some (.int 2 t)
  g_REQUEST_histories : ∃ t, mg "REQUEST_histories" = some (.int 0 t)
  g_RECEIPT_histories : ∃ t, mg "RECEIPT_histories" = some (.int 1 t)
  g_MOST_CLIENTS_histories : ∃ t, mg "MOST_CLIENTS_histories" = some (.int 8 t)
  g_MOST_NUMBER : ∃ t, mg "MOST_NUMBER" = some (.int 1000000000 t)
  g_EVENT : ∃ t, mg "EVENT" = some (.int 5 t)
  g_MOST_JUDGED : ∃ t, mg "MOST_JUDGED" = some (.int 300 t)
  g_PAGE : ∃ t, mg "PAGE" = some (.int 50 t)
  g_REQUESTED_looks : ∃ t, mg "REQUESTED_looks" = some (.int 0 t)
  g_RECEIVED_looks : ∃ t, mg "RECEIVED_looks" = some (.int 4 t)
  g_SENT_looks : ∃ t, mg "SENT_looks" = some (.int 3 t)
  g_KINDS : ∃ t, mg "KINDS" = some (.int 7 t)
  g_CLIENT_PLACES : ∃ t, mg "CLIENT_PLACES" = some (.int 9 t)
  g_STEP_CRASH_CLIENT : ∃ t, mg "STEP_CRASH_CLIENT" = some (.int 8 t)
  g_STEP_RESTART_CLIENT : ∃ t, mg "STEP_RESTART_CLIENT" = some (.int 9 t)
  g_STEP_REQUEST : ∃ t, mg "STEP_REQUEST" = some (.int 0 t)
  g_STEP_DROP : ∃ t, mg "STEP_DROP" = some (.int 3 t)
  g_STEP_REPEAT : ∃ t, mg "STEP_REPEAT" = some (.int 1 t)
  g_STEP_DELIVER : ∃ t, mg "STEP_DELIVER" = some (.int 2 t)
  g_STEP_FORCE : ∃ t, mg "STEP_FORCE" = some (.int 5 t)
  g_RECEIPT_scheduler : ∃ t, mg "RECEIPT_scheduler" = some (.int 1 t)
  g_MOST_BOOT : ∃ t, mg "MOST_BOOT" = some (.int 10 t)
  g_MOST_STAMP : ∃ t, mg "MOST_STAMP" = some (.int 100 t)
  g_REQUEST_scheduler : ∃ t, mg "REQUEST_scheduler" = some (.int 0 t)
  g_MOST_SCHEDULED : ∃ t, mg "MOST_SCHEDULED" = some (.int 200 t)
  g_WROTE : ∃ t, mg "WROTE" = some (.int 1 t)
  g_REPLY : ∃ t, mg "REPLY" = some (.int 1 t)
  g_MADE : ∃ t, mg "MADE" = some (.int 2 t)
  g_SENT_service : ∃ t, mg "SENT_service" = some (.int 3 t)
  g_CRASHED : ∃ t, mg "CRASHED" = some (.int 5 t)
  g_RESTARTED : ∃ t, mg "RESTARTED" = some (.int 6 t)
  g_REQUEST_simulation : ∃ t, mg "REQUEST_simulation" = some (.int 0 t)
  g_REQUESTED_simulation : ∃ t, mg "REQUESTED_simulation" = some (.int 0 t)
  g_RECEIVED_simulation : ∃ t, mg "RECEIVED_simulation" = some (.int 4 t)
  g_PLACES : ∃ t, mg "PLACES" = some (.int 4 t)
  g_MOST_RESERVE : ∃ t, mg "MOST_RESERVE" = some (.int 20 t)
  g_MOST_CLIENTS_worlds : ∃ t, mg "MOST_CLIENTS_worlds" = some (.int 8 t)
  g_CALM_worlds : ∃ t, mg "CALM_worlds" = some (.int 12 t)
  g_MOST_ROUNDS_worlds : ∃ t, mg "MOST_ROUNDS_worlds" = some (.int 20 t)
  g_GET_NETWORK : ∃ t, mg "GET_NETWORK" = some (.int 16 t)
  g_GET_OUTBOX : ∃ t, mg "GET_OUTBOX" = some (.int 17 t)
  g_GET_TRACE : ∃ t, mg "GET_TRACE" = some (.int 18 t)
  g_GET_HISTORY : ∃ t, mg "GET_HISTORY" = some (.int 19 t)
  g_GET_SERVICE : ∃ t, mg "GET_SERVICE" = some (.int 14 t)
  g_GET_CLIENT : ∃ t, mg "GET_CLIENT" = some (.int 15 t)
  g_GET_ORDER : ∃ t, mg "GET_ORDER" = some (.int 20 t)
  g_GET_STATISTICS : ∃ t, mg "GET_STATISTICS" = some (.int 21 t)
  g_RUN_STEPS : ∃ t, mg "RUN_STEPS" = some (.int 13 t)
  g_OPEN_WORLD : ∃ t, mg "OPEN_WORLD" = some (.int 0 t)
  g_COPY_WORLD : ∃ t, mg "COPY_WORLD" = some (.int 1 t)
  g_JUDGE : ∃ t, mg "JUDGE" = some (.int 23 t)
  g_SCHEDULE : ∃ t, mg "SCHEDULE" = some (.int 24 t)
  g_COUNTS : mg "COUNTS" = some (.ref c.co)
  t_COUNTS : ∀ H, SqT K H c.co ([.int 3, .int 2, .int 2, .int 2, .int 2, .int 2, .int 2, .int 1, .int 2, .int 1, .int 2, .int 2, .int 2, .int 1, .int 1, .int 2, .int 2, .int 2, .int 2, .int 2, .int 2, .int 1, .int 1, .int 0, .int 0] : List V)
/-! ### the fields -/
theorem lk_here {k : Str} {v : V} {r : List (Str × V)} : List.lookup k ((k, v) :: r) = some v := by
  have e : (k == k) = true := beq_self_eq_true k
  simp only [List.lookup, e]
theorem lk_past {k g : Str} {v : V} {r : List (Str × V)} (h : (k == g) = false) : List.lookup k ((g, v) :: r) = List.lookup k r := by
  simp only [List.lookup, h]
theorem put_here {f : Str} {v x : V} {r : List (Str × V)} : putF f v ((f, x) :: r) = (f, v) :: r := if_pos rfl
theorem put_past {f g : Str} {v x : V} {r : List (Str × V)} (h : ¬ g = f) : putF f v ((g, x) :: r) = (g, x) :: putF f v r := if_neg h
def f_dk (x0 x1 : V) : List (Str × V) := [("forced", x0), ("unforced", x1)]
section
variable {x0 x1 y : V}
theorem f_dk_forced : (f_dk x0 x1).lookup ("forced" : Str) = some x0 := lk_here
theorem p_dk_forced : putF "forced" y (f_dk x0 x1) = f_dk y x1 := put_here
theorem f_dk_unforced : (f_dk x0 x1).lookup ("unforced" : Str) = some x1 := (lk_past (by decide +kernel)).trans (lk_here)
theorem p_dk_unforced : putF "unforced" y (f_dk x0 x1) = f_dk x0 y := (put_past (by decide +kernel)).trans (congrArg _ (put_here))
theorem l_dk : (f_dk x0 x1).length < 1000 := by
  show 2 < 1000
  decide
theorem w_dk : (putF "unforced" x1 (putF "forced" x0 [])) = f_dk x0 x1 := by
  simp only [putF, f_dk]
  repeat (first | rw [if_neg (by decide +kernel)] | rfl)
theorem m_dk_current : (f_dk x0 x1).lookup ("current" : Str) = none := (lk_past (by decide +kernel)).trans ((lk_past (by decide +kernel)).trans (rfl))
theorem m_dk_write : (f_dk x0 x1).lookup ("write" : Str) = none := (lk_past (by decide +kernel)).trans ((lk_past (by decide +kernel)).trans (rfl))
theorem m_dk_force : (f_dk x0 x1).lookup ("force" : Str) = none := (lk_past (by decide +kernel)).trans ((lk_past (by decide +kernel)).trans (rfl))
theorem m_dk_crash : (f_dk x0 x1).lookup ("crash" : Str) = none := (lk_past (by decide +kernel)).trans ((lk_past (by decide +kernel)).trans (rfl))
theorem m_dk_held : (f_dk x0 x1).lookup ("held" : Str) = none := (lk_past (by decide +kernel)).trans ((lk_past (by decide +kernel)).trans (rfl))
theorem m_dk_twin : (f_dk x0 x1).lookup ("twin" : Str) = none := (lk_past (by decide +kernel)).trans ((lk_past (by decide +kernel)).trans (rfl))
end
def f_py (x0 x1 x2 x3 x4 : V) : List (Str × V) := [("up", x0), ("waiting", x1), ("boot", x2), ("nonce", x3), ("received", x4)]
section
variable {x0 x1 x2 x3 x4 y : V}
theorem f_py_up : (f_py x0 x1 x2 x3 x4).lookup ("up" : Str) = some x0 := lk_here
theorem p_py_up : putF "up" y (f_py x0 x1 x2 x3 x4) = f_py y x1 x2 x3 x4 := put_here
theorem f_py_waiting : (f_py x0 x1 x2 x3 x4).lookup ("waiting" : Str) = some x1 := (lk_past (by decide +kernel)).trans (lk_here)
theorem p_py_waiting : putF "waiting" y (f_py x0 x1 x2 x3 x4) = f_py x0 y x2 x3 x4 := (put_past (by decide +kernel)).trans (congrArg _ (put_here))
theorem f_py_boot : (f_py x0 x1 x2 x3 x4).lookup ("boot" : Str) = some x2 := (lk_past (by decide +kernel)).trans ((lk_past (by decide +kernel)).trans (lk_here))
theorem p_py_boot : putF "boot" y (f_py x0 x1 x2 x3 x4) = f_py x0 x1 y x3 x4 := (put_past (by decide +kernel)).trans (congrArg _ ((put_past (by decide +kernel)).trans (congrArg _ (put_here))))
theorem f_py_nonce : (f_py x0 x1 x2 x3 x4).lookup ("nonce" : Str) = some x3 := (lk_past (by decide +kernel)).trans ((lk_past (by decide +kernel)).trans ((lk_past (by decide +kernel)).trans (lk_here)))
theorem p_py_nonce : putF "nonce" y (f_py x0 x1 x2 x3 x4) = f_py x0 x1 x2 y x4 := (put_past (by decide +kernel)).trans (congrArg _ ((put_past (by decide +kernel)).trans (congrArg _ ((put_past (by decide +kernel)).trans (congrArg _ (put_here))))))
theorem f_py_received : (f_py x0 x1 x2 x3 x4).lookup ("received" : Str) = some x4 := (lk_past (by decide +kernel)).trans ((lk_past (by decide +kernel)).trans ((lk_past (by decide +kernel)).trans ((lk_past (by decide +kernel)).trans (lk_here))))
theorem p_py_received : putF "received" y (f_py x0 x1 x2 x3 x4) = f_py x0 x1 x2 x3 y := (put_past (by decide +kernel)).trans (congrArg _ ((put_past (by decide +kernel)).trans (congrArg _ ((put_past (by decide +kernel)).trans (congrArg _ ((put_past (by decide +kernel)).trans (congrArg _ (put_here))))))))
theorem l_py : (f_py x0 x1 x2 x3 x4).length < 1000 := by
  show 5 < 1000
  decide
theorem w_py : (putF "received" x4 (putF "nonce" x3 (putF "boot" x2 (putF "waiting" x1 (putF "up" x0 []))))) = f_py x0 x1 x2 x3 x4 := by
  simp only [putF, f_py]
  repeat (first | rw [if_neg (by decide +kernel)] | rfl)
theorem m_py_ask : (f_py x0 x1 x2 x3 x4).lookup ("ask" : Str) = none := (lk_past (by decide +kernel)).trans ((lk_past (by decide +kernel)).trans ((lk_past (by decide +kernel)).trans ((lk_past (by decide +kernel)).trans ((lk_past (by decide +kernel)).trans (rfl)))))
theorem m_py_accepts : (f_py x0 x1 x2 x3 x4).lookup ("accepts" : Str) = none := (lk_past (by decide +kernel)).trans ((lk_past (by decide +kernel)).trans ((lk_past (by decide +kernel)).trans ((lk_past (by decide +kernel)).trans ((lk_past (by decide +kernel)).trans (rfl)))))
theorem m_py_receive : (f_py x0 x1 x2 x3 x4).lookup ("receive" : Str) = none := (lk_past (by decide +kernel)).trans ((lk_past (by decide +kernel)).trans ((lk_past (by decide +kernel)).trans ((lk_past (by decide +kernel)).trans ((lk_past (by decide +kernel)).trans (rfl)))))
theorem m_py_crash : (f_py x0 x1 x2 x3 x4).lookup ("crash" : Str) = none := (lk_past (by decide +kernel)).trans ((lk_past (by decide +kernel)).trans ((lk_past (by decide +kernel)).trans ((lk_past (by decide +kernel)).trans ((lk_past (by decide +kernel)).trans (rfl)))))
theorem m_py_restart : (f_py x0 x1 x2 x3 x4).lookup ("restart" : Str) = none := (lk_past (by decide +kernel)).trans ((lk_past (by decide +kernel)).trans ((lk_past (by decide +kernel)).trans ((lk_past (by decide +kernel)).trans ((lk_past (by decide +kernel)).trans (rfl)))))
theorem m_py_last_received : (f_py x0 x1 x2 x3 x4).lookup ("last_received" : Str) = none := (lk_past (by decide +kernel)).trans ((lk_past (by decide +kernel)).trans ((lk_past (by decide +kernel)).trans ((lk_past (by decide +kernel)).trans ((lk_past (by decide +kernel)).trans (rfl)))))
theorem m_py_twin : (f_py x0 x1 x2 x3 x4).lookup ("twin" : Str) = none := (lk_past (by decide +kernel)).trans ((lk_past (by decide +kernel)).trans ((lk_past (by decide +kernel)).trans ((lk_past (by decide +kernel)).trans ((lk_past (by decide +kernel)).trans (rfl)))))
end
def f_sv (x0 x1 x2 x3 x4 : V) : List (Str × V) := [("up", x0), ("disk", x1), ("next_stamp", x2), ("outbox", x3), ("life", x4)]
section
variable {x0 x1 x2 x3 x4 y : V}
theorem f_sv_up : (f_sv x0 x1 x2 x3 x4).lookup ("up" : Str) = some x0 := lk_here
theorem p_sv_up : putF "up" y (f_sv x0 x1 x2 x3 x4) = f_sv y x1 x2 x3 x4 := put_here
theorem f_sv_disk : (f_sv x0 x1 x2 x3 x4).lookup ("disk" : Str) = some x1 := (lk_past (by decide +kernel)).trans (lk_here)
theorem p_sv_disk : putF "disk" y (f_sv x0 x1 x2 x3 x4) = f_sv x0 y x2 x3 x4 := (put_past (by decide +kernel)).trans (congrArg _ (put_here))
theorem f_sv_next_stamp : (f_sv x0 x1 x2 x3 x4).lookup ("next_stamp" : Str) = some x2 := (lk_past (by decide +kernel)).trans ((lk_past (by decide +kernel)).trans (lk_here))
theorem p_sv_next_stamp : putF "next_stamp" y (f_sv x0 x1 x2 x3 x4) = f_sv x0 x1 y x3 x4 := (put_past (by decide +kernel)).trans (congrArg _ ((put_past (by decide +kernel)).trans (congrArg _ (put_here))))
theorem f_sv_outbox : (f_sv x0 x1 x2 x3 x4).lookup ("outbox" : Str) = some x3 := (lk_past (by decide +kernel)).trans ((lk_past (by decide +kernel)).trans ((lk_past (by decide +kernel)).trans (lk_here)))
theorem p_sv_outbox : putF "outbox" y (f_sv x0 x1 x2 x3 x4) = f_sv x0 x1 x2 y x4 := (put_past (by decide +kernel)).trans (congrArg _ ((put_past (by decide +kernel)).trans (congrArg _ ((put_past (by decide +kernel)).trans (congrArg _ (put_here))))))
theorem f_sv_life : (f_sv x0 x1 x2 x3 x4).lookup ("life" : Str) = some x4 := (lk_past (by decide +kernel)).trans ((lk_past (by decide +kernel)).trans ((lk_past (by decide +kernel)).trans ((lk_past (by decide +kernel)).trans (lk_here))))
theorem p_sv_life : putF "life" y (f_sv x0 x1 x2 x3 x4) = f_sv x0 x1 x2 x3 y := (put_past (by decide +kernel)).trans (congrArg _ ((put_past (by decide +kernel)).trans (congrArg _ ((put_past (by decide +kernel)).trans (congrArg _ ((put_past (by decide +kernel)).trans (congrArg _ (put_here))))))))
theorem l_sv : (f_sv x0 x1 x2 x3 x4).length < 1000 := by
  show 5 < 1000
  decide
theorem w_sv : (putF "life" x4 (putF "outbox" x3 (putF "next_stamp" x2 (putF "disk" x1 (putF "up" x0 []))))) = f_sv x0 x1 x2 x3 x4 := by
  simp only [putF, f_sv]
  repeat (first | rw [if_neg (by decide +kernel)] | rfl)
theorem m_sv_write_if_needed : (f_sv x0 x1 x2 x3 x4).lookup ("write_if_needed" : Str) = none := (lk_past (by decide +kernel)).trans ((lk_past (by decide +kernel)).trans ((lk_past (by decide +kernel)).trans ((lk_past (by decide +kernel)).trans ((lk_past (by decide +kernel)).trans (rfl)))))
theorem m_sv_serve : (f_sv x0 x1 x2 x3 x4).lookup ("serve" : Str) = none := (lk_past (by decide +kernel)).trans ((lk_past (by decide +kernel)).trans ((lk_past (by decide +kernel)).trans ((lk_past (by decide +kernel)).trans ((lk_past (by decide +kernel)).trans (rfl)))))
theorem m_sv_force : (f_sv x0 x1 x2 x3 x4).lookup ("force" : Str) = none := (lk_past (by decide +kernel)).trans ((lk_past (by decide +kernel)).trans ((lk_past (by decide +kernel)).trans ((lk_past (by decide +kernel)).trans ((lk_past (by decide +kernel)).trans (rfl)))))
theorem m_sv_crash : (f_sv x0 x1 x2 x3 x4).lookup ("crash" : Str) = none := (lk_past (by decide +kernel)).trans ((lk_past (by decide +kernel)).trans ((lk_past (by decide +kernel)).trans ((lk_past (by decide +kernel)).trans ((lk_past (by decide +kernel)).trans (rfl)))))
theorem m_sv_restart : (f_sv x0 x1 x2 x3 x4).lookup ("restart" : Str) = none := (lk_past (by decide +kernel)).trans ((lk_past (by decide +kernel)).trans ((lk_past (by decide +kernel)).trans ((lk_past (by decide +kernel)).trans ((lk_past (by decide +kernel)).trans (rfl)))))
theorem m_sv_twin : (f_sv x0 x1 x2 x3 x4).lookup ("twin" : Str) = none := (lk_past (by decide +kernel)).trans ((lk_past (by decide +kernel)).trans ((lk_past (by decide +kernel)).trans ((lk_past (by decide +kernel)).trans ((lk_past (by decide +kernel)).trans (rfl)))))
end
def f_wd (x0 x1 x2 x3 x4 : V) : List (Str × V) := [("reserve", x0), ("service", x1), ("parties", x2), ("network", x3), ("trace", x4)]
section
variable {x0 x1 x2 x3 x4 y : V}
theorem f_wd_reserve : (f_wd x0 x1 x2 x3 x4).lookup ("reserve" : Str) = some x0 := lk_here
theorem p_wd_reserve : putF "reserve" y (f_wd x0 x1 x2 x3 x4) = f_wd y x1 x2 x3 x4 := put_here
theorem f_wd_service : (f_wd x0 x1 x2 x3 x4).lookup ("service" : Str) = some x1 := (lk_past (by decide +kernel)).trans (lk_here)
theorem p_wd_service : putF "service" y (f_wd x0 x1 x2 x3 x4) = f_wd x0 y x2 x3 x4 := (put_past (by decide +kernel)).trans (congrArg _ (put_here))
theorem f_wd_parties : (f_wd x0 x1 x2 x3 x4).lookup ("parties" : Str) = some x2 := (lk_past (by decide +kernel)).trans ((lk_past (by decide +kernel)).trans (lk_here))
theorem p_wd_parties : putF "parties" y (f_wd x0 x1 x2 x3 x4) = f_wd x0 x1 y x3 x4 := (put_past (by decide +kernel)).trans (congrArg _ ((put_past (by decide +kernel)).trans (congrArg _ (put_here))))
theorem f_wd_network : (f_wd x0 x1 x2 x3 x4).lookup ("network" : Str) = some x3 := (lk_past (by decide +kernel)).trans ((lk_past (by decide +kernel)).trans ((lk_past (by decide +kernel)).trans (lk_here)))
theorem p_wd_network : putF "network" y (f_wd x0 x1 x2 x3 x4) = f_wd x0 x1 x2 y x4 := (put_past (by decide +kernel)).trans (congrArg _ ((put_past (by decide +kernel)).trans (congrArg _ ((put_past (by decide +kernel)).trans (congrArg _ (put_here))))))
theorem f_wd_trace : (f_wd x0 x1 x2 x3 x4).lookup ("trace" : Str) = some x4 := (lk_past (by decide +kernel)).trans ((lk_past (by decide +kernel)).trans ((lk_past (by decide +kernel)).trans ((lk_past (by decide +kernel)).trans (lk_here))))
theorem p_wd_trace : putF "trace" y (f_wd x0 x1 x2 x3 x4) = f_wd x0 x1 x2 x3 y := (put_past (by decide +kernel)).trans (congrArg _ ((put_past (by decide +kernel)).trans (congrArg _ ((put_past (by decide +kernel)).trans (congrArg _ ((put_past (by decide +kernel)).trans (congrArg _ (put_here))))))))
theorem l_wd : (f_wd x0 x1 x2 x3 x4).length < 1000 := by
  show 5 < 1000
  decide
theorem w_wd : (putF "trace" x4 (putF "network" x3 (putF "parties" x2 (putF "service" x1 (putF "reserve" x0 []))))) = f_wd x0 x1 x2 x3 x4 := by
  simp only [putF, f_wd]
  repeat (first | rw [if_neg (by decide +kernel)] | rfl)
theorem m_wd_send_request : (f_wd x0 x1 x2 x3 x4).lookup ("send_request" : Str) = none := (lk_past (by decide +kernel)).trans ((lk_past (by decide +kernel)).trans ((lk_past (by decide +kernel)).trans ((lk_past (by decide +kernel)).trans ((lk_past (by decide +kernel)).trans (rfl)))))
theorem m_wd_make_request : (f_wd x0 x1 x2 x3 x4).lookup ("make_request" : Str) = none := (lk_past (by decide +kernel)).trans ((lk_past (by decide +kernel)).trans ((lk_past (by decide +kernel)).trans ((lk_past (by decide +kernel)).trans ((lk_past (by decide +kernel)).trans (rfl)))))
theorem m_wd_take : (f_wd x0 x1 x2 x3 x4).lookup ("take" : Str) = none := (lk_past (by decide +kernel)).trans ((lk_past (by decide +kernel)).trans ((lk_past (by decide +kernel)).trans ((lk_past (by decide +kernel)).trans ((lk_past (by decide +kernel)).trans (rfl)))))
theorem m_wd_arrive : (f_wd x0 x1 x2 x3 x4).lookup ("arrive" : Str) = none := (lk_past (by decide +kernel)).trans ((lk_past (by decide +kernel)).trans ((lk_past (by decide +kernel)).trans ((lk_past (by decide +kernel)).trans ((lk_past (by decide +kernel)).trans (rfl)))))
theorem m_wd_arrive_request : (f_wd x0 x1 x2 x3 x4).lookup ("arrive_request" : Str) = none := (lk_past (by decide +kernel)).trans ((lk_past (by decide +kernel)).trans ((lk_past (by decide +kernel)).trans ((lk_past (by decide +kernel)).trans ((lk_past (by decide +kernel)).trans (rfl)))))
theorem m_wd_arrive_reply : (f_wd x0 x1 x2 x3 x4).lookup ("arrive_reply" : Str) = none := (lk_past (by decide +kernel)).trans ((lk_past (by decide +kernel)).trans ((lk_past (by decide +kernel)).trans ((lk_past (by decide +kernel)).trans ((lk_past (by decide +kernel)).trans (rfl)))))
theorem m_wd_force : (f_wd x0 x1 x2 x3 x4).lookup ("force" : Str) = none := (lk_past (by decide +kernel)).trans ((lk_past (by decide +kernel)).trans ((lk_past (by decide +kernel)).trans ((lk_past (by decide +kernel)).trans ((lk_past (by decide +kernel)).trans (rfl)))))
theorem m_wd_crash_service : (f_wd x0 x1 x2 x3 x4).lookup ("crash_service" : Str) = none := (lk_past (by decide +kernel)).trans ((lk_past (by decide +kernel)).trans ((lk_past (by decide +kernel)).trans ((lk_past (by decide +kernel)).trans ((lk_past (by decide +kernel)).trans (rfl)))))
theorem m_wd_restart_service : (f_wd x0 x1 x2 x3 x4).lookup ("restart_service" : Str) = none := (lk_past (by decide +kernel)).trans ((lk_past (by decide +kernel)).trans ((lk_past (by decide +kernel)).trans ((lk_past (by decide +kernel)).trans ((lk_past (by decide +kernel)).trans (rfl)))))
theorem m_wd_calm_round : (f_wd x0 x1 x2 x3 x4).lookup ("calm_round" : Str) = none := (lk_past (by decide +kernel)).trans ((lk_past (by decide +kernel)).trans ((lk_past (by decide +kernel)).trans ((lk_past (by decide +kernel)).trans ((lk_past (by decide +kernel)).trans (rfl)))))
theorem m_wd_twin : (f_wd x0 x1 x2 x3 x4).lookup ("twin" : Str) = none := (lk_past (by decide +kernel)).trans ((lk_past (by decide +kernel)).trans ((lk_past (by decide +kernel)).trans ((lk_past (by decide +kernel)).trans ((lk_past (by decide +kernel)).trans (rfl)))))
end
def f_pl (x0 x1 x2 x3 : V) : List (Str × V) := [("steps", x0), ("boots", x1), ("next_stamp", x2), ("pending", x3)]
section
variable {x0 x1 x2 x3 y : V}
theorem f_pl_steps : (f_pl x0 x1 x2 x3).lookup ("steps" : Str) = some x0 := lk_here
theorem p_pl_steps : putF "steps" y (f_pl x0 x1 x2 x3) = f_pl y x1 x2 x3 := put_here
theorem f_pl_boots : (f_pl x0 x1 x2 x3).lookup ("boots" : Str) = some x1 := (lk_past (by decide +kernel)).trans (lk_here)
theorem p_pl_boots : putF "boots" y (f_pl x0 x1 x2 x3) = f_pl x0 y x2 x3 := (put_past (by decide +kernel)).trans (congrArg _ (put_here))
theorem f_pl_next_stamp : (f_pl x0 x1 x2 x3).lookup ("next_stamp" : Str) = some x2 := (lk_past (by decide +kernel)).trans ((lk_past (by decide +kernel)).trans (lk_here))
theorem p_pl_next_stamp : putF "next_stamp" y (f_pl x0 x1 x2 x3) = f_pl x0 x1 y x3 := (put_past (by decide +kernel)).trans (congrArg _ ((put_past (by decide +kernel)).trans (congrArg _ (put_here))))
theorem f_pl_pending : (f_pl x0 x1 x2 x3).lookup ("pending" : Str) = some x3 := (lk_past (by decide +kernel)).trans ((lk_past (by decide +kernel)).trans ((lk_past (by decide +kernel)).trans (lk_here)))
theorem p_pl_pending : putF "pending" y (f_pl x0 x1 x2 x3) = f_pl x0 x1 x2 y := (put_past (by decide +kernel)).trans (congrArg _ ((put_past (by decide +kernel)).trans (congrArg _ ((put_past (by decide +kernel)).trans (congrArg _ (put_here))))))
theorem l_pl : (f_pl x0 x1 x2 x3).length < 1000 := by
  show 4 < 1000
  decide
theorem w_pl : (putF "pending" x3 (putF "next_stamp" x2 (putF "boots" x1 (putF "steps" x0 [])))) = f_pl x0 x1 x2 x3 := by
  simp only [putF, f_pl]
  repeat (first | rw [if_neg (by decide +kernel)] | rfl)
theorem m_pl_step : (f_pl x0 x1 x2 x3).lookup ("step" : Str) = none := (lk_past (by decide +kernel)).trans ((lk_past (by decide +kernel)).trans ((lk_past (by decide +kernel)).trans ((lk_past (by decide +kernel)).trans (rfl))))
theorem m_pl_boot_up : (f_pl x0 x1 x2 x3).lookup ("boot_up" : Str) = none := (lk_past (by decide +kernel)).trans ((lk_past (by decide +kernel)).trans ((lk_past (by decide +kernel)).trans ((lk_past (by decide +kernel)).trans (rfl))))
theorem m_pl_plan_request : (f_pl x0 x1 x2 x3).lookup ("plan_request" : Str) = none := (lk_past (by decide +kernel)).trans ((lk_past (by decide +kernel)).trans ((lk_past (by decide +kernel)).trans ((lk_past (by decide +kernel)).trans (rfl))))
theorem m_pl_make_stamp : (f_pl x0 x1 x2 x3).lookup ("make_stamp" : Str) = none := (lk_past (by decide +kernel)).trans ((lk_past (by decide +kernel)).trans ((lk_past (by decide +kernel)).trans ((lk_past (by decide +kernel)).trans (rfl))))
theorem m_pl_plan_pending : (f_pl x0 x1 x2 x3).lookup ("plan_pending" : Str) = none := (lk_past (by decide +kernel)).trans ((lk_past (by decide +kernel)).trans ((lk_past (by decide +kernel)).trans ((lk_past (by decide +kernel)).trans (rfl))))
theorem m_pl_pass_stamp : (f_pl x0 x1 x2 x3).lookup ("pass_stamp" : Str) = none := (lk_past (by decide +kernel)).trans ((lk_past (by decide +kernel)).trans ((lk_past (by decide +kernel)).trans ((lk_past (by decide +kernel)).trans (rfl))))
theorem m_pl_plan_new : (f_pl x0 x1 x2 x3).lookup ("plan_new" : Str) = none := (lk_past (by decide +kernel)).trans ((lk_past (by decide +kernel)).trans ((lk_past (by decide +kernel)).trans ((lk_past (by decide +kernel)).trans (rfl))))
end
/-! ### how the records lie in the heap -/
structure SL where
  s : Addr
  d : Addr
  u : Addr
  o : Addr
def SL.fp (l : SL) : List Addr := [l.s, l.d, l.u, l.o]
structure PL where
  p : Addr
  r : Addr
def PL.fp (l : PL) : List Addr := [l.p, l.r]
structure WL where
  w : Addr
  pl : Addr
  n : Addr
  t : Addr
  sl : SL
  ps : List PL
def psFp (ps : List PL) : List Addr := ps.flatMap PL.fp
def WL.own (l : WL) : List Addr := [l.w, l.pl, l.n, l.t]
def WL.fp (l : WL) : List Addr := l.own ++ (l.sl.fp ++ psFp l.ps)
structure DiskAt (c : CA) (H : Hp) (d u : Addr) (m : MDisk) : Prop where
  ob : ∃ dx, H d = some (.ins c.dk dx (f_dk (.int m.forced) (.ref u)))
  un : H u = some (.lst (m.unf.map V.int))
structure SrvAt (c : CA) (H : Hp) (l : SL) (m : MSrv) : Prop where
  ob : ∃ dx, H l.s = some (.ins c.sv dx (f_sv (.bl m.up) (.ref l.d) (.int m.next) (.ref l.o) (.int m.life)))
  dk : DiskAt c H l.d l.u m.disk
  out : RowsAt H l.o (m.outbox.map M5.row)
  nd : l.fp.Nodup
structure PartyAt (c : CA) (H : Hp) (l : PL) (m : MParty) : Prop where
  ob : ∃ dx, H l.p = some (.ins c.py dx (f_py (.bl m.up) (.bl m.waiting) (.int m.boot) (.int m.nonce) (.ref l.r)))
  rc : H l.r = some (.lst (m.received.map V.int))
def PartiesAt (c : CA) (H : Hp) (ps : List PL) (ms : List MParty) : Prop := Paired (PartyAt c H) ps ms
structure WorldAt (c : CA) (H : Hp) (l : WL) (m : MWorld) : Prop where
  ob : ∃ dx, H l.w = some (.ins c.wd dx (f_wd (.int m.reserve) (.ref l.sl.s) (.ref l.pl) (.ref l.n) (.ref l.t)))
  sv : SrvAt c H l.sl m.srv
  pl : H l.pl = some (.lst (l.ps.map fun p => V.ref p.p))
  ps : PartiesAt c H l.ps m.parties
  net : RowsAt H l.n (m.net.map M5.row)
  tr : RowsAt H l.t (m.trace.map M6.row)
  nd : l.own.Nodup
  nds : ∀ a ∈ l.sl.fp, a ∉ l.own
  ndp : (psFp l.ps).Nodup
  ndq : ∀ a ∈ psFp l.ps, a ∉ l.own ∧ a ∉ l.sl.fp
end Tz
namespace Tz
open PySem PySem.Spec PyProof.Rows L2
/-! ### the disk -/
theorem DiskAt.mv {c : CA} {H H' : Hp} {S S' : List Addr} {d u : Addr} {m : MDisk} (h : DiskAt c H d u m) (a : Mv S H S' H') (hd : d ∉ S) (hu : u ∉ S) : DiskAt c H' d u m := by
  obtain ⟨⟨dx, h1⟩, h2⟩ := h
  exact ⟨⟨dx, a.get h1 hd⟩, a.get h2 hu⟩
theorem DiskAt.ne {c : CA} {H : Hp} {d u : Addr} {m : MDisk} (h : DiskAt c H d u m) : u ≠ d := by
  obtain ⟨⟨dx, h1⟩, h2⟩ := h
  exact ne_of h2 h1 (by intro q; cases q)
def sp_Disk_init (K : PySem.W.Frag) (c : CA) : Sp := fun vs H Q _ => ∃ (p dx l : Addr) (f : Int) (xs : List Int), vs = [.ref p, .int f, .ref l] ∧ H p = some (.ins c.dk dx []) ∧ H l = some (.lst (xs.map V.int)) ∧
  ∀ H' u, DiskAt c H' p u ⟨f, xs⟩ → H u = none → Mv [p] H [p, u] H' → Q .non H'
def sp_Disk_current (K : PySem.W.Frag) (c : CA) : Sp := fun vs H Q _ => ∃ (d u : Addr) (m : MDisk), vs = [.ref d] ∧ DiskAt c H d u m ∧ Q (.int m.current) H
def sp_Disk_write (K : PySem.W.Frag) (c : CA) : Sp := fun vs H Q _ => ∃ (d u : Addr) (m : MDisk) (x : Int), vs = [.ref d, .int x] ∧ DiskAt c H d u m ∧ m.unf.length < 1000000 ∧
  ∀ H', DiskAt c H' d u (m.write x) → Mv [d, u] H [d, u] H' → Q .non H'
def sp_Disk_force (K : PySem.W.Frag) (c : CA) : Sp := fun vs H Q _ => ∃ (d u : Addr) (m : MDisk), vs = [.ref d] ∧ DiskAt c H d u m ∧
  ∀ H' u', DiskAt c H' d u' m.force → H u' = none → Mv [d, u] H [d, u'] H' → Q .non H'
def sp_Disk_crash (K : PySem.W.Frag) (c : CA) : Sp := fun vs H Q _ => ∃ (d u : Addr) (m : MDisk) (k : Int), vs = [.ref d, .int k] ∧ DiskAt c H d u m ∧ 
  ∀ H' u', DiskAt c H' d u' (m.crash k) → H u' = none → Mv [d, u] H [d, u'] H' → Q .non H'
def sp_Disk_held (K : PySem.W.Frag) (c : CA) : Sp := fun vs H Q _ => ∃ (d u : Addr) (m : MDisk), vs = [.ref d] ∧ DiskAt c H d u m ∧ m.unf.length < 1000000 ∧
  ∀ H' p, Same H H' → H p = none → H' p = some (.lst (m.held.map V.int)) → Q (.ref p) H'
def sp_Disk_twin (K : PySem.W.Frag) (c : CA) : Sp := fun vs H Q _ => ∃ (d u : Addr) (m : MDisk), vs = [.ref d] ∧ DiskAt c H d u m ∧
  ∀ H' p u', DiskAt c H' p u' m → H p = none → H u' = none → Same H H' → Q (.ref p) H'
section
variable {P : Program} {w : World} {K : PySem.W.Frag} {mg : Str → Option Value} {base : Heap} {c : CA}
variable {σ : L2.St} {H : Hp} {d u : Addr} {m : MDisk} {ta : TE}
theorem v_dk_forced (T : Txt K mg c) (A : DiskAt c H d u m) (h : Val ta σ H (.ref d)) : Val (tFld K ta "forced") σ H (.int m.forced) := by
  obtain ⟨dx, ho⟩ := A.ob
  exact val_fld h ho T.c_dk T.a_dk_forced f_dk_forced
theorem v_dk_unforced (T : Txt K mg c) (A : DiskAt c H d u m) (h : Val ta σ H (.ref d)) : Val (tFld K ta "unforced") σ H (.ref u) := by
  obtain ⟨dx, ho⟩ := A.ob
  exact val_fld h ho T.c_dk T.a_dk_unforced f_dk_unforced
theorem ok_Disk_init {f : Addr} {fd : FuncData} (F : Fun K "__init__" "Disk.__init__" s_Disk_init f fd) (T : Txt K mg c) : FnOk P w K mg base CX0 1 f fd ["self", "forced", "unforced"] (sp_Disk_init K c) := by
  refine F.ok sc_Disk_init (fun vs H Q E h => ?_) (fun cdv A outer s H vs Q E hr h => ?_)
  · obtain ⟨p, dx, l, f0, xs, rfl, hp, hl, k⟩ := h
    rfl
  obtain ⟨p, dx, l, f0, xs, rfl, hp, hl, k⟩ := h
  refine ⟨_, (pss_cons (ps_fld (pv 0) (pv 1) rfl)
      (pss_one (ps_fld (pv 0) (pe_callTy call_list_of (by rfl) T.z_list (by decide +kernel) (pa_cons (pv 2) pa_nil)) rfl))), ?_⟩
  refine s_fld (val_var rfl) (val_var rfl) hp T.c_dk T.a_dk_forced (by decide) ?_
  have nlp : l ≠ p := ne_of hl hp (by intro q; cases q)
  refine ⟨_, rfl, l, xs.map V.int, rfl, .inl (SqL.of (by rw [upd_ne nlp]; exact hl)), fun u hu => ?_⟩
  have hup : u ≠ p := by
    intro q
    rw [q, upd_same] at hu
    cases hu
  have hu0 : H u = none := by
    rw [upd_ne hup] at hu
    exact hu
  refine ⟨_, rfl, p, c.dk, dx, _, rfl, by rw [upd_ne hup.symm, upd_same], T.c_dk, T.a_dk_unforced, (by show 1 < 1000; decide), ?_⟩
  refine k _ u ⟨⟨dx, ?_⟩, ?_⟩ hu0 ?_
  · rw [upd_same, w_dk]
  · rw [upd_ne hup, upd_same]
  · refine ((((Mv.refl [p] H).setI (by simp) hp).lay hu).setI (by simp) (by rw [upd_ne hup.symm, upd_same])).drop ?_
    intro b hb
    simp only [List.mem_cons, List.not_mem_nil, or_false] at hb ⊢
    exact hb.symm
theorem ok_Disk_current {f : Addr} {fd : FuncData} (F : Fun K "current" "Disk.current" s_Disk_current f fd) (T : Txt K mg c) : FnOk P w K mg base CX0 1 f fd ["self"] (sp_Disk_current K c) := by
  refine F.ok sc_Disk_current (fun vs H Q E h => ?_) (fun cdv A outer s H vs Q E hr h => ?_)
  · obtain ⟨d, u, m, rfl, A, k⟩ := h
    rfl
  obtain ⟨d, u, m, rfl, A, k⟩ := h
  refine ⟨_, (pss_cons (ps_if (pt_cmpR op_gt (pe_callB call_len_seq (by rfl) T.z_len PySem.boot_len (pa_cons (pe_fld (pv 0) rfl) pa_nil)) pe_int (nomark _)) (pss_one (ps_ret (pe_ix ix_list (pe_fld (pv 0) rfl) (pe_un un_neg pe_int) (fun _ _ => rfl)))) pss_nil)
      (pss_one (ps_ret (pe_fld (pv 0) rfl)))), ?_⟩
  refine s_if (b := decide (0 < m.unf.length)) (a_to (a_val (v_gt (v_len (v_dk_unforced T A (val_var rfl)) (SqL.of A.un)) val_c)) (by rw [List.length_map]; simp)) (fun h => ?_) (fun h => ?_)
  · have hl : 0 < m.unf.length := of_decide_eq_true h
    obtain ⟨x, hx⟩ : ∃ x, m.unf.getLast? = some x := by
      cases e : m.unf.getLast? with
      | none =>
        rw [List.getLast?_eq_none_iff.mp e] at hl
        exact absurd hl (by decide)
      | some x => exact ⟨x, rfl⟩
    refine st_ret (v_ixL (v_dk_unforced T A (val_var rfl)) (v_neg val_c) (SqL.of A.un) (atI_end (v := .int x) (by rw [List.getLast?_map, hx]; rfl))) ?_
    have e : m.current = x := by
      unfold MDisk.current
      rw [hx]
      rfl
    rw [e] at k
    exact k
  · have hl : ¬ 0 < m.unf.length := of_decide_eq_false h
    refine st_ret (v_dk_forced T A (val_var rfl)) ?_
    have e : m.current = m.forced := by
      unfold MDisk.current
      rw [List.length_eq_zero_iff.mp (Nat.eq_zero_of_not_pos hl)]
      rfl
    rw [e] at k
    exact k
theorem ok_Disk_write {f : Addr} {fd : FuncData} (F : Fun K "write" "Disk.write" s_Disk_write f fd) (T : Txt K mg c) : FnOk P w K mg base CX0 1 f fd ["self", "limit"] (sp_Disk_write K c) := by
  refine F.ok sc_Disk_write (fun vs H Q E h => ?_) (fun cdv A outer s H vs Q E hr h => ?_)
  · obtain ⟨d, u, m, x, rfl, A, hz, k⟩ := h
    rfl
  obtain ⟨d, u, m, x, rfl, A, hz, k⟩ := h
  refine ⟨_, (pss_one (ps_expr (pe_bm PySem.F.plainAttrs_list PySem.F.slot_list_append PySem.F.type_list_append mt_append (pe_fld (pv 0) rfl) (pa_cons (pv 1) pa_nil)))), ?_⟩
  refine s_append (v_dk_unforced T A (val_var rfl)) A.un (val_var rfl) (by rw [List.length_map]; exact hz) ?_
  obtain ⟨⟨dx, ho⟩, hu⟩ := A
  have ne : u ≠ d := ne_of hu ho (by intro q; cases q)
  refine k _ ⟨⟨dx, by rw [upd_ne ne.symm]; exact ho⟩, ?_⟩ (.updL (by simp) hu)
  rw [upd_same]
  show _ = some (HO.lst ((m.unf ++ [x]).map V.int))
  rw [List.map_append]
  rfl
theorem ok_Disk_force {f : Addr} {fd : FuncData} (F : Fun K "force" "Disk.force" s_Disk_force f fd) (T : Txt K mg c) (D_Disk_current : MethOk P w K mg base c.dk "current" 1 ["self"] (sp_Disk_current K c)) : FnOk P w K mg base CX0 2 f fd ["self"] (sp_Disk_force K c) := by
  refine F.ok sc_Disk_force (fun vs H Q E h => ?_) (fun cdv A outer s H vs Q E hr h => ?_)
  · obtain ⟨d, u, m, rfl, A, k⟩ := h
    rfl
  obtain ⟨d, u, m, rfl, A, k⟩ := h
  refine ⟨_, (pss_cons (ps_fld (pv 0) (pe_methD0 (pv 0) T.c_dk D_Disk_current (hr.mono (by decide))) rfl)
      (pss_one (ps_fld (pv 0) (pe_lst pa_nil) rfl))), ?_⟩
  obtain ⟨⟨dx, ho⟩, hu⟩ := id A
  have ne : u ≠ d := A.ne
  refine s_fld (v_meth0 (val_var rfl) ho m_dk_current fun Q q => ⟨d, u, m, rfl, A, q⟩) (val_var rfl) ho T.c_dk T.a_dk_forced l_dk ?_
  rw [p_dk_forced]
  refine s_fld0 (fun H => val_var rfl) upd_same T.c_dk T.a_dk_unforced l_dk fun p hp hne => ?_
  rw [p_dk_unforced]
  have hp0 : H p = none := by
    rw [upd_ne hne] at hp
    exact hp
  refine k _ p ⟨⟨dx, upd_same⟩, ?_⟩ hp0 ?_
  · rw [upd_ne hne, upd_same]
    rfl
  · refine ((((Mv.refl [d, u] H).setI (by simp) ho).lay hp).setI (by simp) (by rw [upd_ne hne.symm, upd_same])).drop ?_
    intro b hb
    simp only [List.mem_cons, List.not_mem_nil, or_false] at hb ⊢
    rcases hb with hb | hb
    · exact .inr (.inl hb)
    · exact .inl hb
theorem ok_Disk_crash {f : Addr} {fd : FuncData} (F : Fun K "crash" "Disk.crash" s_Disk_crash f fd) (T : Txt K mg c) : FnOk P w K mg base CX0 1 f fd ["self", "kept"] (sp_Disk_crash K c) := by
  refine F.ok sc_Disk_crash (fun vs H Q E h => ?_) (fun cdv A outer s H vs Q E hr h => ?_)
  · obtain ⟨d, u, m, kept, rfl, A, k⟩ := h
    rfl
  obtain ⟨d, u, m, kept, rfl, A, k⟩ := h
  refine ⟨_, (pss_cons (ps_set (i := 2) sc_Disk_crash.nd rfl (Or.inl rfl) (pe_callB (call_min2 rfl) (by rfl) T.z_min (by decide +kernel) (pa_cons (pv 1) (pa_cons (pe_callB call_len_seq (by rfl) T.z_len PySem.boot_len (pa_cons (pe_fld (pv 0) rfl) pa_nil)) pa_nil))))
      (pss_cons (ps_if (pt_cmpR op_gt (pv 2) pe_int (nomark _)) (pss_one (ps_fld (pv 0) (pe_ix ix_list (pe_fld (pv 0) rfl) (pe_op op_sub (pv 2) pe_int) (fun _ _ => rfl)) rfl)) pss_nil)
      (pss_one (ps_fld (pv 0) (pe_lst pa_nil) rfl)))), ?_⟩
  obtain ⟨⟨dx, ho⟩, hu⟩ := id A
  have ne : u ≠ d := A.ne
  refine s_asg (v_min2 (val_var rfl) (v_len (v_dk_unforced T A (val_var rfl)) (SqL.of A.un))) ?_
  rw [List.length_map]
  have step : ∀ (x : Int) (H1 : Hp), (upd H d (.ins c.dk dx (f_dk (.int x) (.ref u))) = H1 ∨ x = m.forced ∧ H1 = H) → m.crash kept = ⟨x, []⟩ → ∀ σ', σ'[0]? = some (some (.ref d)) →
      (sFld K (tVar 0) (tLst tNil) "unforced") { nx := fun _ H' => Q .non H', rt := Q } σ' H1 := by
    intro x H1 hx e σ' hσ
    have h1 : H1 d = some (.ins c.dk dx (f_dk (.int x) (.ref u))) := by
      rcases hx with rfl | ⟨rfl, rfl⟩
      · exact upd_same
      · exact ho
    have mv : Mv [d, u] H [d, u] H1 := by
      rcases hx with rfl | ⟨rfl, rfl⟩
      · exact .updI (by simp) ho
      · exact .refl _ _
    refine s_fld0 (fun H => val_var hσ) h1 T.c_dk T.a_dk_unforced l_dk fun p hp hne => ?_
    rw [p_dk_unforced]
    have hp0 : H p = none := by
      rcases hx with rfl | ⟨rfl, rfl⟩
      · rw [upd_ne hne] at hp
        exact hp
      · exact hp
    refine k _ p ?_ hp0 ?_
    · rw [e]
      refine ⟨⟨dx, upd_same⟩, ?_⟩
      rw [upd_ne hne, upd_same]
      rfl
    · refine ((mv.lay hp).setI (by simp) (by rw [upd_ne hne.symm]; exact h1)).drop ?_
      intro b hb
      simp only [List.mem_cons, List.not_mem_nil, or_false] at hb ⊢
      rcases hb with hb | hb
      · exact .inr (.inl hb)
      · exact .inl hb
  refine s_if (a_val (v_gt (val_var rfl) val_c)) (fun h => ?_) (fun h => ?_)
  · have hv : (0 : Int) < if (m.unf.length : Int) < kept then (m.unf.length : Int) else kept := of_decide_eq_true h
    have hle : (if (m.unf.length : Int) < kept then (m.unf.length : Int) else kept) ≤ (m.unf.length : Int) := by
      split <;> omega
    have e : m.crash kept = ⟨(m.unf[((if (m.unf.length : Int) < kept then (m.unf.length : Int) else kept) - 1).toNat]?).getD m.forced, []⟩ := if_pos hv
    generalize hvv : (if (m.unf.length : Int) < kept then (m.unf.length : Int) else kept) = v at hv hle e
    have hlt : (v - 1).toNat < m.unf.length := by omega
    obtain ⟨x, hx⟩ : ∃ x, m.unf[(v - 1).toNat]? = some x := ⟨_, List.getElem?_eq_getElem hlt⟩
    refine s_fld (v_ixL (v_dk_unforced T A (val_var rfl)) (v_sub (val_var rfl) val_c) (SqL.of A.un) (get_atI (v := .int x) (k := (v - 1).toNat) (by omega) (by rw [List.getElem?_map, hx]; rfl))) (val_var rfl) ho T.c_dk T.a_dk_forced l_dk ?_
    rw [p_dk_forced]
    rw [hx] at e
    exact step x _ (.inl rfl) e _ rfl
  · have hv : ¬ (0 : Int) < if (m.unf.length : Int) < kept then (m.unf.length : Int) else kept := of_decide_eq_false h
    have e : m.crash kept = ⟨m.forced, []⟩ := if_neg hv
    exact step m.forced H (.inr ⟨rfl, rfl⟩) e _ rfl
theorem ok_Disk_held {f : Addr} {fd : FuncData} (F : Fun K "held" "Disk.held" s_Disk_held f fd) (T : Txt K mg c) : FnOk P w K mg base CX0 1 f fd ["self"] (sp_Disk_held K c) := by
  refine F.ok sc_Disk_held (fun vs H Q E h => ?_) (fun cdv A outer s H vs Q E hr h => ?_)
  · obtain ⟨d, u, m, rfl, A, hz, k⟩ := h
    rfl
  obtain ⟨d, u, m, rfl, A, hz, k⟩ := h
  refine ⟨_, (pss_one (ps_ret (pe_op op_cat (pe_lst (pa_cons (pe_fld (pv 0) rfl) pa_nil)) (pe_fld (pv 0) rfl)))), ?_⟩
  refine x_ret (x_op (x_lst (av_cons (v_dk_forced T A (val_var rfl)) av_nil) fun p hp => ?_))
  have hpu : u ≠ p := ne_of_none A.un hp
  have A' : DiskAt c (upd H p (.lst [.int m.forced])) d u m := A.mv (S := []) (S' := []) (.side hp) (by simp) (by simp)
  refine v_dk_unforced T A' (val_var rfl) _ ⟨p, u, [.int m.forced], _, rfl, rfl, upd_same, A'.un, ?_, fun q hq => ?_⟩
  · rw [List.length_map]
    exact Nat.le_trans (show 1 + m.unf.length ≤ 1000001 by omega) (by decide)
  · refine k _ q ((same_new hp).trans (same_new hq)) ((same_new hp).free hq) ?_
    rw [upd_same]
    rfl
theorem ok_Disk_twin {f : Addr} {fd : FuncData} (F : Fun K "twin" "Disk.twin" s_Disk_twin f fd) (T : Txt K mg c) (D_Disk_init : MakeOk P w K mg base "Disk" c.dk 1 ["self", "forced", "unforced"] (sp_Disk_init K c)) : FnOk P w K mg base CX0 3 f fd ["self"] (sp_Disk_twin K c) := by
  refine F.ok sc_Disk_twin (fun vs H Q E h => ?_) (fun cdv A outer s H vs Q E hr h => ?_)
  · obtain ⟨d, u, m, rfl, A, k⟩ := h
    rfl
  obtain ⟨d, u, m, rfl, A, k⟩ := h
  refine ⟨_, (pss_one (ps_ret (pe_makeD D_Disk_init (hr.mono (by decide)) (pa_cons (pe_fld (pv 0) rfl) (pa_cons (pe_fld (pv 0) rfl) pa_nil))))), ?_⟩
  refine x_ret (x_make (av_cons (v_dk_forced T A (val_var rfl)) (av_cons (v_dk_unforced T A (val_var rfl)) av_nil)) fun x dx nx ndx nex s0 => ?_)
  refine ⟨x, dx, u, m.forced, m.unf, rfl, upd_same, s0 _ _ A.un, fun H' u' A' hu' mv => ⟨rfl, ?_⟩⟩
  refine k H' x u' A' nx (s0.free hu') fun b o e => mv.get (s0 b o e) ?_
  simp only [List.mem_cons, List.not_mem_nil, or_false]
  exact ne_of_none e nx
end
end Tz
namespace Tz
open PySem PySem.Spec PyProof.Rows L2
/-! ### a client -/
theorem PartyAt.mv {c : CA} {H H' : Hp} {S S' : List Addr} {l : PL} {m : MParty} (h : PartyAt c H l m) (a : Mv S H S' H') (hp : l.p ∉ S) (hr : l.r ∉ S) : PartyAt c H' l m := by
  obtain ⟨⟨dx, h1⟩, h2⟩ := h
  exact ⟨⟨dx, a.get h1 hp⟩, a.get h2 hr⟩
theorem PartyAt.same {c : CA} {H H' : Hp} {l : PL} {m : MParty} (h : PartyAt c H l m) (s : Same H H') : PartyAt c H' l m := by
  obtain ⟨⟨dx, h1⟩, h2⟩ := h
  exact ⟨⟨dx, s _ _ h1⟩, s _ _ h2⟩
theorem PartyAt.ne {c : CA} {H : Hp} {l : PL} {m : MParty} (h : PartyAt c H l m) : l.r ≠ l.p := by
  obtain ⟨⟨dx, h1⟩, h2⟩ := h
  exact ne_of h2 h1 (by intro q; cases q)
def sp_Party_init (K : PySem.W.Frag) (c : CA) : Sp := fun vs H Q _ => ∃ (p dx : Addr), vs = [.ref p] ∧ H p = some (.ins c.py dx []) ∧
  ∀ H' r, PartyAt c H' ⟨p, r⟩ .fresh → H r = none → r ≠ p → Mv [p] H [p, r] H' → Q .non H'
def sp_Party_ask (K : PySem.W.Frag) (c : CA) : Sp := fun vs H Q _ => ∃ (l : PL) (m : MParty), vs = [.ref l.p] ∧ PartyAt c H l m ∧
  ∀ H', PartyAt c H' l m.ask → Mv l.fp H l.fp H' → Q .non H'
def sp_Party_accepts (K : PySem.W.Frag) (c : CA) : Sp := fun vs H Q _ => ∃ (l : PL) (m : MParty) (b n : Int), vs = [.ref l.p, .int b, .int n] ∧ PartyAt c H l m ∧ Q (.bl (m.accepts b n)) H
def sp_Party_receive (K : PySem.W.Frag) (c : CA) : Sp := fun vs H Q _ => ∃ (l : PL) (m : MParty) (s : Int), vs = [.ref l.p, .int s] ∧ PartyAt c H l m ∧ m.received.length < 1000000 ∧
  ∀ H', PartyAt c H' l (m.receive s) → Mv l.fp H l.fp H' → Q .non H'
def sp_Party_crash (K : PySem.W.Frag) (c : CA) : Sp := fun vs H Q _ => ∃ (l : PL) (m : MParty), vs = [.ref l.p] ∧ PartyAt c H l m ∧
  ∀ H', PartyAt c H' l m.crash → Mv l.fp H l.fp H' → Q .non H'
def sp_Party_restart (K : PySem.W.Frag) (c : CA) : Sp := fun vs H Q _ => ∃ (l : PL) (m : MParty), vs = [.ref l.p] ∧ PartyAt c H l m ∧
  ∀ H', PartyAt c H' l m.restart → Mv l.fp H l.fp H' → Q .non H'
def sp_Party_last_received (K : PySem.W.Frag) (c : CA) : Sp := fun vs H Q _ => ∃ (l : PL) (m : MParty), vs = [.ref l.p] ∧ PartyAt c H l m ∧ Q (.int m.last) H
def sp_Party_twin (K : PySem.W.Frag) (c : CA) : Sp := fun vs H Q _ => ∃ (l : PL) (m : MParty), vs = [.ref l.p] ∧ PartyAt c H l m ∧
  ∀ H' l', PartyAt c H' l' m → H l'.p = none → H l'.r = none → Same H H' → Q (.ref l'.p) H'
section
variable {P : Program} {w : World} {K : PySem.W.Frag} {mg : Str → Option Value} {base : Heap} {c : CA}
variable {σ : L2.St} {H : Hp} {l : PL} {m : MParty} {ta : TE}
theorem v_py_up (T : Txt K mg c) (A : PartyAt c H l m) (h : Val ta σ H (.ref l.p)) : Val (tFld K ta "up") σ H (.bl m.up) := by
  obtain ⟨dx, ho⟩ := A.ob
  exact val_fld h ho T.c_py T.a_py_up f_py_up
theorem v_py_waiting (T : Txt K mg c) (A : PartyAt c H l m) (h : Val ta σ H (.ref l.p)) : Val (tFld K ta "waiting") σ H (.bl m.waiting) := by
  obtain ⟨dx, ho⟩ := A.ob
  exact val_fld h ho T.c_py T.a_py_waiting f_py_waiting
theorem v_py_boot (T : Txt K mg c) (A : PartyAt c H l m) (h : Val ta σ H (.ref l.p)) : Val (tFld K ta "boot") σ H (.int m.boot) := by
  obtain ⟨dx, ho⟩ := A.ob
  exact val_fld h ho T.c_py T.a_py_boot f_py_boot
theorem v_py_nonce (T : Txt K mg c) (A : PartyAt c H l m) (h : Val ta σ H (.ref l.p)) : Val (tFld K ta "nonce") σ H (.int m.nonce) := by
  obtain ⟨dx, ho⟩ := A.ob
  exact val_fld h ho T.c_py T.a_py_nonce f_py_nonce
theorem v_py_received (T : Txt K mg c) (A : PartyAt c H l m) (h : Val ta σ H (.ref l.p)) : Val (tFld K ta "received") σ H (.ref l.r) := by
  obtain ⟨dx, ho⟩ := A.ob
  exact val_fld h ho T.c_py T.a_py_received f_py_received
theorem ok_Party_init {f : Addr} {fd : FuncData} (F : Fun K "__init__" "Party.__init__" s_Party_init f fd) (T : Txt K mg c) : FnOk P w K mg base CX0 1 f fd ["self"] (sp_Party_init K c) := by
  refine F.ok sc_Party_init (fun vs H Q E h => ?_) (fun cdv A outer s H vs Q E hr h => ?_)
  · obtain ⟨p, dx, rfl, hp, k⟩ := h
    rfl
  obtain ⟨p, dx, rfl, hp, k⟩ := h
  refine ⟨_, (pss_cons (ps_fld (pv 0) pe_bl rfl)
      (pss_cons (ps_fld (pv 0) pe_bl rfl)
      (pss_cons (ps_fld (pv 0) pe_int rfl)
      (pss_cons (ps_fld (pv 0) pe_int rfl)
      (pss_one (ps_fld (pv 0) (pe_lst pa_nil) rfl)))))), ?_⟩
  refine s_fld val_c (val_var rfl) hp T.c_py T.a_py_up (by decide) ?_
  refine s_fld val_c (val_var rfl) upd_same T.c_py T.a_py_waiting (by show 1 < 1000; decide) ?_
  refine s_fld val_c (val_var rfl) upd_same T.c_py T.a_py_boot (by show 2 < 1000; decide) ?_
  refine s_fld val_c (val_var rfl) upd_same T.c_py T.a_py_nonce (by show 3 < 1000; decide) ?_
  refine s_fld0 (fun H => val_var rfl) upd_same T.c_py T.a_py_received (by show 4 < 1000; decide) fun r hr hne => ?_
  simp only [upd_upd] at hr ⊢
  have hr0 : H r = none := by
    rw [upd_ne hne] at hr
    exact hr
  refine k _ r ⟨⟨dx, ?_⟩, ?_⟩ hr0 hne ?_
  · rw [upd_same, w_py]
    rfl
  · show upd _ p _ r = _
    rw [upd_ne hne, upd_same]
    rfl
  · refine ((((Mv.refl [p] H).setI (by simp) hp).lay hr).setI (by simp) (by rw [upd_ne hne.symm, upd_same])).drop ?_
    intro b hb
    simp only [List.mem_cons, List.not_mem_nil, or_false] at hb ⊢
    exact hb.symm
theorem ok_Party_ask {f : Addr} {fd : FuncData} (F : Fun K "ask" "Party.ask" s_Party_ask f fd) (T : Txt K mg c) : FnOk P w K mg base CX0 1 f fd ["self"] (sp_Party_ask K c) := by
  refine F.ok sc_Party_ask (fun vs H Q E h => ?_) (fun cdv A outer s H vs Q E hr h => ?_)
  · obtain ⟨l, m, rfl, A, k⟩ := h
    rfl
  obtain ⟨l, m, rfl, A, k⟩ := h
  refine ⟨_, (pss_cons (ps_fld (pv 0) (pe_op op_add (pe_fld (pv 0) rfl) pe_int) rfl)
      (pss_one (ps_fld (pv 0) pe_bl rfl))), ?_⟩
  obtain ⟨⟨dx, ho⟩, hr2⟩ := id A
  have ne := A.ne
  refine s_fld (v_add (v_py_nonce T A (val_var rfl)) val_c) (val_var rfl) ho T.c_py T.a_py_nonce l_py ?_
  rw [p_py_nonce]
  refine s_fld val_c (val_var rfl) upd_same T.c_py T.a_py_waiting l_py ?_
  rw [p_py_waiting, upd_upd]
  exact k _ ⟨⟨dx, upd_same⟩, by rw [upd_ne ne]; exact hr2⟩ (.updI (by simp [PL.fp]) ho)
theorem ok_Party_accepts {f : Addr} {fd : FuncData} (F : Fun K "accepts" "Party.accepts" s_Party_accepts f fd) (T : Txt K mg c) : FnOk P w K mg base CX0 1 f fd ["self", "boot", "nonce"] (sp_Party_accepts K c) := by
  refine F.ok sc_Party_accepts (fun vs H Q E h => ?_) (fun cdv A outer s H vs Q E hr h => ?_)
  · obtain ⟨l, m, b, n, rfl, A, k⟩ := h
    rfl
  obtain ⟨l, m, b, n, rfl, A, k⟩ := h
  refine ⟨_, (pss_one (ps_ret (pe_and (pe_fld (pv 0) rfl) (pe_and (pe_fld (pv 0) rfl) (pe_and (pe_cmpR op_eq (pe_fld (pv 0) rfl) (pv 1) (nomark _)) (pe_one (pe_cmpR op_eq (pe_fld (pv 0) rfl) (pv 2) (nomark _)))))))), ?_⟩
  refine st_ret (v_andV (v_py_up T A (val_var rfl)) fun _ => v_andV (v_py_waiting T A (val_var rfl)) fun _ => v_andV (v_eq (v_py_boot T A (val_var rfl)) (val_var rfl)) fun _ => v_eq (v_py_nonce T A (val_var rfl)) (val_var rfl)) ?_
  exact k
theorem ok_Party_receive {f : Addr} {fd : FuncData} (F : Fun K "receive" "Party.receive" s_Party_receive f fd) (T : Txt K mg c) : FnOk P w K mg base CX0 1 f fd ["self", "stamp"] (sp_Party_receive K c) := by
  refine F.ok sc_Party_receive (fun vs H Q E h => ?_) (fun cdv A outer s H vs Q E hr h => ?_)
  · obtain ⟨l, m, s0, rfl, A, hz, k⟩ := h
    rfl
  obtain ⟨l, m, s0, rfl, A, hz, k⟩ := h
  refine ⟨_, (pss_cons (ps_expr (pe_bm PySem.F.plainAttrs_list PySem.F.slot_list_append PySem.F.type_list_append mt_append (pe_fld (pv 0) rfl) (pa_cons (pv 1) pa_nil)))
      (pss_one (ps_fld (pv 0) pe_bl rfl))), ?_⟩
  obtain ⟨⟨dx, ho⟩, hr2⟩ := id A
  have ne := A.ne
  refine s_append (v_py_received T A (val_var rfl)) A.rc (val_var rfl) (by rw [List.length_map]; exact hz) ?_
  have ho2 : upd H l.r (.lst (m.received.map V.int ++ [.int s0])) l.p = some (.ins c.py dx (f_py (.bl m.up) (.bl m.waiting) (.int m.boot) (.int m.nonce) (.ref l.r))) := by
    rw [upd_ne ne.symm]
    exact ho
  refine s_fld val_c (val_var rfl) ho2 T.c_py T.a_py_waiting l_py ?_
  rw [p_py_waiting]
  refine k _ ⟨⟨dx, upd_same⟩, ?_⟩ (((Mv.refl l.fp H).setL (by simp [PL.fp]) hr2).setI (by simp [PL.fp]) ho2)
  rw [upd_ne ne, upd_same]
  show _ = some (HO.lst ((m.received ++ [s0]).map V.int))
  rw [List.map_append]
  rfl
theorem ok_Party_crash {f : Addr} {fd : FuncData} (F : Fun K "crash" "Party.crash" s_Party_crash f fd) (T : Txt K mg c) : FnOk P w K mg base CX0 1 f fd ["self"] (sp_Party_crash K c) := by
  refine F.ok sc_Party_crash (fun vs H Q E h => ?_) (fun cdv A outer s H vs Q E hr h => ?_)
  · obtain ⟨l, m, rfl, A, k⟩ := h
    rfl
  obtain ⟨l, m, rfl, A, k⟩ := h
  refine ⟨_, (pss_cons (ps_fld (pv 0) pe_bl rfl)
      (pss_one (ps_fld (pv 0) pe_bl rfl))), ?_⟩
  obtain ⟨⟨dx, ho⟩, hr2⟩ := id A
  have ne := A.ne
  refine s_fld val_c (val_var rfl) ho T.c_py T.a_py_up l_py ?_
  rw [p_py_up]
  refine s_fld val_c (val_var rfl) upd_same T.c_py T.a_py_waiting l_py ?_
  rw [p_py_waiting, upd_upd]
  exact k _ ⟨⟨dx, upd_same⟩, by rw [upd_ne ne]; exact hr2⟩ (.updI (by simp [PL.fp]) ho)
theorem ok_Party_restart {f : Addr} {fd : FuncData} (F : Fun K "restart" "Party.restart" s_Party_restart f fd) (T : Txt K mg c) : FnOk P w K mg base CX0 1 f fd ["self"] (sp_Party_restart K c) := by
  refine F.ok sc_Party_restart (fun vs H Q E h => ?_) (fun cdv A outer s H vs Q E hr h => ?_)
  · obtain ⟨l, m, rfl, A, k⟩ := h
    rfl
  obtain ⟨l, m, rfl, A, k⟩ := h
  refine ⟨_, (pss_cons (ps_fld (pv 0) pe_bl rfl)
      (pss_cons (ps_fld (pv 0) (pe_op op_add (pe_fld (pv 0) rfl) pe_int) rfl)
      (pss_one (ps_fld (pv 0) pe_int rfl)))), ?_⟩
  obtain ⟨⟨dx, ho⟩, hr2⟩ := id A
  have ne := A.ne
  refine s_fld val_c (val_var rfl) ho T.c_py T.a_py_up l_py ?_
  rw [p_py_up]
  refine s_fld (v_add (val_fld (val_var rfl) upd_same T.c_py T.a_py_boot f_py_boot) val_c) (val_var rfl) upd_same T.c_py T.a_py_boot l_py ?_
  rw [p_py_boot, upd_upd]
  refine s_fld val_c (val_var rfl) upd_same T.c_py T.a_py_nonce l_py ?_
  rw [p_py_nonce, upd_upd]
  exact k _ ⟨⟨dx, upd_same⟩, by rw [upd_ne ne]; exact hr2⟩ (.updI (by simp [PL.fp]) ho)
theorem ok_Party_last_received {f : Addr} {fd : FuncData} (F : Fun K "last_received" "Party.last_received" s_Party_last_received f fd) (T : Txt K mg c) : FnOk P w K mg base CX0 1 f fd ["self"] (sp_Party_last_received K c) := by
  refine F.ok sc_Party_last_received (fun vs H Q E h => ?_) (fun cdv A outer s H vs Q E hr h => ?_)
  · obtain ⟨l, m, rfl, A, k⟩ := h
    rfl
  obtain ⟨l, m, rfl, A, k⟩ := h
  refine ⟨_, (pss_cons (ps_if (pt_cmpR op_gt (pe_callB call_len_seq (by rfl) T.z_len PySem.boot_len (pa_cons (pe_fld (pv 0) rfl) pa_nil)) pe_int (nomark _)) (pss_one (ps_ret (pe_ix ix_list (pe_fld (pv 0) rfl) (pe_un un_neg pe_int) (fun _ _ => rfl)))) pss_nil)
      (pss_one (ps_ret pe_int))), ?_⟩
  refine q_ifn (b := decide (0 < m.received.length)) (a_to (a_val (v_gt (v_len (v_py_received T A (val_var rfl)) (SqL.of A.rc)) val_c)) (by rw [List.length_map]; simp)) (fun h => ?_) (fun h => ?_)
  · have hl : 0 < m.received.length := of_decide_eq_true h
    obtain ⟨x, hx⟩ : ∃ x, m.received.getLast? = some x := by
      cases e : m.received.getLast? with
      | none =>
        rw [List.getLast?_eq_none_iff.mp e] at hl
        exact absurd hl (by decide)
      | some x => exact ⟨x, rfl⟩
    refine st_ret (v_ixL (v_py_received T A (val_var rfl)) (v_neg val_c) (SqL.of A.rc) (atI_end (v := .int x) (by rw [List.getLast?_map, hx]; rfl))) ?_
    have e : m.last = x := by
      unfold MParty.last
      rw [hx]
      rfl
    rw [e] at k
    exact k
  · have hl : ¬ 0 < m.received.length := of_decide_eq_false h
    refine st_ret val_c ?_
    have e : m.last = 0 := by
      unfold MParty.last
      rw [List.length_eq_zero_iff.mp (Nat.eq_zero_of_not_pos hl)]
      rfl
    rw [e] at k
    exact k
theorem ok_Party_twin {f : Addr} {fd : FuncData} (F : Fun K "twin" "Party.twin" s_Party_twin f fd) (T : Txt K mg c) (D_Party_init : MakeOk P w K mg base "Party" c.py 1 ["self"] (sp_Party_init K c)) : FnOk P w K mg base CX0 3 f fd ["self"] (sp_Party_twin K c) := by
  refine F.ok sc_Party_twin (fun vs H Q E h => ?_) (fun cdv A outer s H vs Q E hr h => ?_)
  · obtain ⟨l, m, rfl, A, k⟩ := h
    rfl
  obtain ⟨l, m, rfl, A, k⟩ := h
  refine ⟨_, (pss_cons (ps_set (i := 1) sc_Party_twin.nd rfl (Or.inl rfl) (pe_makeD0 D_Party_init (hr.mono (by decide))))
      (pss_cons (ps_fld (pv 1) (pe_fld (pv 0) rfl) rfl)
      (pss_cons (ps_fld (pv 1) (pe_fld (pv 0) rfl) rfl)
      (pss_cons (ps_fld (pv 1) (pe_fld (pv 0) rfl) rfl)
      (pss_cons (ps_fld (pv 1) (pe_fld (pv 0) rfl) rfl)
      (pss_cons (ps_fld (pv 1) (pe_callTy call_list_of (by rfl) T.z_list (by decide +kernel) (pa_cons (pe_fld (pv 0) rfl) pa_nil)) rfl)
      (pss_one (ps_ret (pv 1))))))))), ?_⟩
  refine q_xset (x_make av_nil fun x dx nx ndx nex s0 => ?_)
  refine ⟨x, dx, rfl, upd_same, fun H1 r0 B hr0 hrx mv => ⟨rfl, ?_⟩⟩
  have s1 : Same H H1 := fun b o e => mv.get (s0 b o e) (by
    simp only [List.mem_cons, List.not_mem_nil, or_false]
    exact ne_of_none e nx)
  obtain ⟨⟨dx1, ho⟩, hr2⟩ := id B
  have A1 := A.same s1
  -- each field is stored in turn; the source is read behind each store
  have A2 : ∀ o, PartyAt c (upd H1 x o) l m := fun o => by
    obtain ⟨⟨dz, z1⟩, z2⟩ := id A
    exact ⟨⟨dz, by rw [upd_ne (ne_of_none z1 nx)]; exact s1 _ _ z1⟩, by rw [upd_ne (ne_of_none z2 nx)]; exact s1 _ _ z2⟩
  refine q_fld (v_py_up T A1 (val_var rfl)) (val_var rfl) ho T.c_py T.a_py_up l_py ?_
  rw [p_py_up]
  refine q_fld (v_py_waiting T (A2 _) (val_var rfl)) (val_var rfl) upd_same T.c_py T.a_py_waiting l_py ?_
  rw [p_py_waiting, upd_upd]
  refine q_fld (v_py_boot T (A2 _) (val_var rfl)) (val_var rfl) upd_same T.c_py T.a_py_boot l_py ?_
  rw [p_py_boot, upd_upd]
  refine q_fld (v_py_nonce T (A2 _) (val_var rfl)) (val_var rfl) upd_same T.c_py T.a_py_nonce l_py ?_
  rw [p_py_nonce, upd_upd]
  refine x_fld ?_
  refine x_cb (av_cons (v_py_received T (A2 _) (val_var rfl)) av_nil) ?_
  refine ⟨l.r, m.received.map V.int, rfl, .inl (SqL.of (A2 _).rc), fun r hr => ?_⟩
  have hrx2 : r ≠ x := by
    intro q
    rw [q, upd_same] at hr
    cases hr
  refine val_var rfl _ ⟨x, c.py, dx1, _, rfl, by rw [upd_ne hrx2.symm, upd_same], T.c_py, T.a_py_received, l_py, ?_⟩
  rw [p_py_received]
  refine st_ret (val_var rfl) ?_
  have hr1 : H1 r = none := by
    rw [upd_ne hrx2] at hr
    exact hr
  refine k _ ⟨x, r⟩ ⟨⟨dx1, upd_same⟩, ?_⟩ nx (s1.free hr1) ?_
  · show upd _ x _ r = _
    rw [upd_ne hrx2, upd_same]
  · intro b o e
    have hb : b ≠ x := ne_of_none e nx
    rw [upd_ne hb, upd_ne (ne_of_none e (s1.free hr1)), upd_ne hb]
    exact s1 _ _ e
end
end Tz
namespace Tz
open PySem PySem.Spec PyProof.Rows L2
/-! ### the service -/
section
variable {c : CA} {H H' : Hp} {l : SL} {m : MSrv}
theorem SrvAt.mv {S S' : List Addr} (h : SrvAt c H l m) (a : Mv S H S' H') (hn : ∀ b ∈ l.fp, b ∉ S) : SrvAt c H' l m := by
  obtain ⟨⟨dx, h1⟩, h2, h3, h4⟩ := h
  exact ⟨⟨dx, a.get h1 (hn _ (by simp [SL.fp]))⟩, h2.mv a (hn _ (by simp [SL.fp])) (hn _ (by simp [SL.fp])), a.rows h3 (hn _ (by simp [SL.fp])), h4⟩
theorem SrvAt.same (h : SrvAt c H l m) (s : Same H H') : SrvAt c H' l m := h.mv (S := []) (S' := []) (.of_same s) (by simp)
theorem SrvAt.live (h : SrvAt c H l m) : ∀ b ∈ l.fp, ∃ o, H b = some o := by
  obtain ⟨⟨dx, h1⟩, ⟨⟨dy, h2⟩, h3⟩, ⟨as, h4, _⟩, _⟩ := h
  intro b hb
  simp only [SL.fp, List.mem_cons, List.not_mem_nil, or_false] at hb
  rcases hb with rfl | rfl | rfl | rfl
  · exact ⟨_, h1⟩
  · exact ⟨_, h2⟩
  · exact ⟨_, h3⟩
  · exact ⟨_, h4⟩
theorem SrvAt.fresh (h : SrvAt c H l m) {r : Addr} (hr : H r = none) : r ∉ l.fp := fun q => by
  obtain ⟨o, e⟩ := h.live r q
  rw [hr] at e
  cases e
theorem SrvAt.nes (h : SrvAt c H l m) : l.s ≠ l.d ∧ l.s ≠ l.u ∧ l.s ≠ l.o ∧ l.d ≠ l.u ∧ l.d ≠ l.o ∧ l.u ≠ l.o := by
  have z := h.nd
  simp only [SL.fp, List.nodup_cons, List.mem_cons, List.not_mem_nil, or_false, not_or, List.nodup_nil, and_true, not_false_eq_true] at z
  exact ⟨z.1.1, z.1.2.1, z.1.2.2, z.2.1.1, z.2.1.2, z.2.2⟩
/-- the disk has changed -/
theorem SrvAt.setDisk {H1 : Hp} {u' : Addr} {dk : MDisk} (h : SrvAt c H l m) (hd : DiskAt c H1 l.d u' dk) (hu : u' = l.u ∨ H u' = none) (a : Mv [l.d, l.u] H [l.d, u'] H1) :
    SrvAt c H1 { l with u := u' } { m with disk := dk } ∧ Mv l.fp H ({ l with u := u' } : SL).fp H1 := by
  obtain ⟨n1, n2, n3, n4, n5, n6⟩ := h.nes
  obtain ⟨⟨dx, h1⟩, h2, h3, h4⟩ := id h
  obtain ⟨as, h5, _⟩ := id h3
  have nu : u' ≠ l.s ∧ u' ≠ l.d ∧ u' ≠ l.o := by
    rcases hu with rfl | hu
    · exact ⟨n2.symm, n4.symm, n6⟩
    · obtain ⟨⟨dy, q1⟩, q2⟩ := id h2
      exact ⟨(ne_of_none h1 hu).symm, (ne_of_none q1 hu).symm, (ne_of_none h5 hu).symm⟩
  refine ⟨⟨⟨dx, a.get h1 (by simp [n1, n2])⟩, hd, a.rows h3 (by simp [Ne.symm n5, Ne.symm n6]), ?_⟩, a.sub (fun b hb => ?_) fun b hb => ?_⟩
  · simp only [SL.fp, List.nodup_cons, List.mem_cons, List.not_mem_nil, or_false, not_or, List.nodup_nil, and_true, not_false_eq_true]
    exact ⟨⟨n1, nu.1.symm, n3⟩, ⟨nu.2.1.symm, n5⟩, nu.2.2⟩
  · simp only [SL.fp, List.mem_cons, List.not_mem_nil, or_false] at hb ⊢
    rcases hb with hb | hb
    · exact .inr (.inl hb)
    · exact .inr (.inr (.inl hb))
  · simp only [SL.fp, List.mem_cons, List.not_mem_nil, or_false] at hb ⊢
    rcases hb with hb | hb | hb | hb
    · exact .inr (.inl (.inl hb))
    · exact .inl (.inl hb)
    · exact .inl (.inr hb)
    · exact .inr (.inl (.inr (.inr (.inr hb))))
end
section
variable {c : CA} {H H1 : Hp} {l : SL} {m : MSrv} {dx o' : Addr} {up : Bool} {nx lf : Int}
theorem SrvAt.push {out : List M5} (h : SrvAt c H l m) (R : RowsAt H1 l.o (out.map M5.row)) (a : Mv [l.o] H [l.o] H1) : SrvAt c H1 l { m with outbox := out } := by
  obtain ⟨n1, n2, n3, n4, n5, n6⟩ := h.nes
  obtain ⟨⟨dx, h1⟩, h2, h3, h4⟩ := id h
  exact ⟨⟨dx, a.get h1 (by simp [n3])⟩, h2.mv a (by simp [n5]) (by simp [n6]), R, h4⟩
theorem SrvAt.set (h : SrvAt c H l m) (ho : H1 l.s = some (.ins c.sv dx (f_sv (.bl up) (.ref l.d) (.int nx) (.ref l.o) (.int lf)))) (a : Mv [l.s] H [l.s] H1) : SrvAt c H1 l { m with up := up, next := nx, life := lf } := by
  obtain ⟨n1, n2, n3, n4, n5, n6⟩ := h.nes
  obtain ⟨_, h2, h3, h4⟩ := id h
  exact ⟨⟨dx, ho⟩, h2.mv a (by simp [n1.symm]) (by simp [n2.symm]), a.rows h3 (by simp [n3.symm]), h4⟩
theorem SrvAt.newOut (h : SrvAt c H l m) (hn : H o' = none) (R : RowsAt H1 o' []) (ho : H1 l.s = some (.ins c.sv dx (f_sv (.bl up) (.ref l.d) (.int nx) (.ref o') (.int lf)))) (a : Mv [l.s] H [l.s, o'] H1) :
    SrvAt c H1 { l with o := o' } { m with up := up, next := nx, outbox := [], life := lf } ∧ Mv l.fp H ({ l with o := o' } : SL).fp H1 := by
  obtain ⟨n1, n2, n3, n4, n5, n6⟩ := h.nes
  obtain ⟨⟨dy, h1⟩, h2, h3, h4⟩ := id h
  have nf := h.fresh hn
  simp only [SL.fp, List.mem_cons, List.not_mem_nil, or_false, not_or] at nf
  refine ⟨⟨⟨dx, ho⟩, h2.mv a (by simp [n1.symm]) (by simp [n2.symm]), R, ?_⟩, a.sub (fun b hb => ?_) fun b hb => ?_⟩
  · simp [SL.fp, n1, n2, n4, Ne.symm nf.1, Ne.symm nf.2.1, Ne.symm nf.2.2.1]
  · simp only [SL.fp, List.mem_cons, List.not_mem_nil, or_false] at hb ⊢
    exact .inl hb
  · simp only [SL.fp, List.mem_cons, List.not_mem_nil, or_false] at hb ⊢
    grind
end
def sp_Service_init (K : PySem.W.Frag) (c : CA) : Sp := fun vs H Q _ => ∃ (p dx : Addr), vs = [.ref p] ∧ H p = some (.ins c.sv dx []) ∧
  ∀ H' l, SrvAt c H' l .fresh → l.s = p → (∀ b ∈ l.fp, b = p ∨ H b = none) → Mv [p] H l.fp H' → Q .non H'
def sp_Service_write_if_needed (K : PySem.W.Frag) (c : CA) : Sp := fun vs H Q _ => ∃ (l : SL) (m : MSrv) (rv : Int), vs = [.ref l.s, .int rv] ∧ SrvAt c H l m ∧ m.disk.unf.length < 1000000 ∧
  ∀ H' r, SrvAt c H' l (m.wrote rv) → RowsAt H' r ((m.wroteRows rv).map M6.row) → H r = none → Mv l.fp H l.fp H' → Q (.ref r) H'
def sp_Service_serve (K : PySem.W.Frag) (c : CA) : Sp := fun vs H Q _ => ∃ (l : SL) (m : MSrv) (rv : Int) (t : Addr) (e : M5), vs = [.ref l.s, .ref t, .int rv] ∧ SrvAt c H l m ∧ H t = some (.tup (e.row.map V.int)) ∧ m.disk.unf.length < 1000000 ∧ m.outbox.length < 1000000 ∧
  ∀ H' r, SrvAt c H' l (m.serve e rv) → RowsAt H' r ((m.serveRows e rv).map M6.row) → H r = none → Mv l.fp H l.fp H' → Q (.ref r) H'
def sp_Service_force (K : PySem.W.Frag) (c : CA) : Sp := fun vs H Q _ => ∃ (l : SL) (m : MSrv), vs = [.ref l.s] ∧ SrvAt c H l m ∧ m.outbox.length < 1000000 ∧
  ∀ H' l' r, SrvAt c H' l' m.force → l'.s = l.s → RowsAt H' r (m.forceRows.map M6.row) → H r = none → r ∉ l'.fp → Mv l.fp H l'.fp H' → Q (.ref r) H'
def sp_Service_crash (K : PySem.W.Frag) (c : CA) : Sp := fun vs H Q _ => ∃ (l : SL) (m : MSrv) (kept : Int), vs = [.ref l.s, .int kept] ∧ SrvAt c H l m ∧
  ∀ H' l' r, SrvAt c H' l' (m.crash kept) → l'.s = l.s → RowsAt H' r [(m.crashRow kept).row] → H r = none → r ∉ l'.fp → Mv l.fp H l'.fp H' → Q (.ref r) H'
def sp_Service_restart (K : PySem.W.Frag) (c : CA) : Sp := fun vs H Q _ => ∃ (l : SL) (m : MSrv), vs = [.ref l.s] ∧ SrvAt c H l m ∧
  ∀ H' r, SrvAt c H' l m.restart → RowsAt H' r [m.restartRow.row] → H r = none → Mv l.fp H l.fp H' → Q (.ref r) H'
def sp_Service_twin (K : PySem.W.Frag) (c : CA) : Sp := fun vs H Q _ => ∃ (l : SL) (m : MSrv), vs = [.ref l.s] ∧ SrvAt c H l m ∧
  ∀ H' l', SrvAt c H' l' m → (∀ b ∈ l'.fp, H b = none) → Same H H' → Q (.ref l'.s) H'
section
variable {P : Program} {w : World} {K : PySem.W.Frag} {mg : Str → Option Value} {base : Heap} {c : CA}
variable {σ : L2.St} {H : Hp} {l : SL} {m : MSrv} {ta : TE}
theorem v_sv_up (T : Txt K mg c) (A : SrvAt c H l m) (h : Val ta σ H (.ref l.s)) : Val (tFld K ta "up") σ H (.bl m.up) := by
  obtain ⟨dx, ho⟩ := A.ob
  exact val_fld h ho T.c_sv T.a_sv_up f_sv_up
theorem v_sv_disk (T : Txt K mg c) (A : SrvAt c H l m) (h : Val ta σ H (.ref l.s)) : Val (tFld K ta "disk") σ H (.ref l.d) := by
  obtain ⟨dx, ho⟩ := A.ob
  exact val_fld h ho T.c_sv T.a_sv_disk f_sv_disk
theorem v_sv_next (T : Txt K mg c) (A : SrvAt c H l m) (h : Val ta σ H (.ref l.s)) : Val (tFld K ta "next_stamp") σ H (.int m.next) := by
  obtain ⟨dx, ho⟩ := A.ob
  exact val_fld h ho T.c_sv T.a_sv_next_stamp f_sv_next_stamp
theorem v_sv_outbox (T : Txt K mg c) (A : SrvAt c H l m) (h : Val ta σ H (.ref l.s)) : Val (tFld K ta "outbox") σ H (.ref l.o) := by
  obtain ⟨dx, ho⟩ := A.ob
  exact val_fld h ho T.c_sv T.a_sv_outbox f_sv_outbox
theorem v_sv_life (T : Txt K mg c) (A : SrvAt c H l m) (h : Val ta σ H (.ref l.s)) : Val (tFld K ta "life") σ H (.int m.life) := by
  obtain ⟨dx, ho⟩ := A.ob
  exact val_fld h ho T.c_sv T.a_sv_life f_sv_life
/-- e.current() where e is the service's disk -/
theorem v_cur {d u : Addr} {dk : MDisk} {E : XK} (h : Val ta σ H (.ref d)) (A : DiskAt c H d u dk) : Val (tMeth c.dk "current" (sp_Disk_current K c) [] E ta tNil) σ H (.int dk.current) := by
  obtain ⟨dx, ho⟩ := A.ob
  exact v_meth0 h ho m_dk_current fun Q q => ⟨d, u, dk, rfl, A, q⟩
theorem ok_Service_init {f : Addr} {fd : FuncData} (F : Fun K "__init__" "Service.__init__" s_Service_init f fd) (T : Txt K mg c) (D_Disk_init : MakeOk P w K mg base "Disk" c.dk 1 ["self", "forced", "unforced"] (sp_Disk_init K c)) : FnOk P w K mg base CX0 3 f fd ["self"] (sp_Service_init K c) := by
  refine F.ok sc_Service_init (fun vs H Q E h => ?_) (fun cdv A outer s H vs Q E hr h => ?_)
  · obtain ⟨p, dx, rfl, hp, k⟩ := h
    rfl
  obtain ⟨p, dx, rfl, hp, k⟩ := h
  refine ⟨_, (pss_cons (ps_fld (pv 0) pe_bl rfl)
      (pss_cons (ps_fld (pv 0) (pe_makeD D_Disk_init (hr.mono (by decide)) (pa_cons pe_int (pa_cons (pe_lst pa_nil) pa_nil))) rfl)
      (pss_cons (ps_fld (pv 0) pe_int rfl)
      (pss_cons (ps_fld (pv 0) (pe_lst pa_nil) rfl)
      (pss_one (ps_fld (pv 0) pe_int rfl)))))), ?_⟩
  refine q_fld val_c (val_var rfl) hp T.c_sv T.a_sv_up (by decide) ?_
  refine q_xfld ?_
  refine ⟨Nat.zero_le _, fun e he => ?_⟩
  intro d dd nd ndd nde
  have hep : e ≠ p := fun q => by
    rw [q, upd_same] at he
    cases he
  generalize hH1 : (upd (upd H p (.ins c.sv dx (putF "up" (.bl true) []))) e (.lst ([] : List V))) = H1 at *
  have m1 : Mv [p] H [p] H1 := by
    rw [← hH1]
    exact ((Mv.refl [p] H).setI (by simp) hp).aside he
  have hp1 : H1 p = some (.ins c.sv dx (putF "up" (.bl true) [])) := by
    rw [← hH1, upd_ne hep.symm, upd_same]
  have he1 : H1 e = some (.lst ([] : List V)) := by
    rw [← hH1, upd_same]
  have s0 : Same H1 (upd (upd H1 dd (.own d)) d (.ins c.dk dd [])) := fun b o e => by
    rw [upd_ne (ne_of_none e nd), upd_ne (ne_of_none e ndd)]
    exact e
  refine ⟨d, dd, e, 1, [], rfl, upd_same, s0 _ _ he1, fun H2 u A hu mv => ⟨rfl, ?_⟩⟩
  obtain ⟨s1, fr⟩ := made nd s0 mv
  have hd1 : H1 d = none := nd
  have hu1 : H1 u = none := fr u (by simp)
  have npd : p ≠ d := ne_of_none hp1 hd1
  have npu : p ≠ u := ne_of_none hp1 hu1
  have ndu : u ≠ d := A.ne
  have m2 : Mv [p] H [p, d, u] H2 := m1.grow s1 (by
    intro b hb
    simp only [List.mem_cons, List.not_mem_nil, or_false] at hb ⊢
    rcases hb with rfl | rfl | rfl
    · exact .inl rfl
    · exact .inr hd1
    · exact .inr hu1)
  have hp2 := s1 _ _ hp1
  refine ⟨_, rfl, p, c.sv, dx, _, rfl, hp2, T.c_sv, T.a_sv_disk, (by show 1 < 1000; decide), ?_⟩
  refine q_fld val_c (val_var rfl) upd_same T.c_sv T.a_sv_next_stamp (by show 2 < 1000; decide) ?_
  rw [upd_upd]
  refine q_fld0 (fun H => val_var rfl) upd_same T.c_sv T.a_sv_outbox (by show 3 < 1000; decide) fun o ho hop => ?_
  refine s_fld val_c (val_var rfl) upd_same T.c_sv T.a_sv_life (by show 4 < 1000; decide) ?_
  rw [w_sv, upd_upd]
  have ho2 : H2 o = none := by
    rw [upd_ne hop] at ho
    exact ho
  obtain ⟨⟨dz, z1⟩, z2⟩ := id A
  have nod : o ≠ d := (ne_of_none z1 ho2).symm
  have nou : o ≠ u := (ne_of_none z2 ho2).symm
  refine k _ ⟨p, d, u, o⟩ ⟨⟨dx, upd_same⟩, ⟨⟨dz, ?_⟩, ?_⟩, ⟨[], ?_, .nil⟩, ?_⟩ rfl ?_ ?_
  · rw [upd_ne npd.symm, upd_ne nod.symm, upd_ne npd.symm]
    exact z1
  · rw [upd_ne npu.symm, upd_ne nou.symm, upd_ne npu.symm]
    exact z2
  · rw [upd_ne hop, upd_same]
    rfl
  · simp [SL.fp, npd, npu, hop.symm, ndu.symm, nod.symm, nou.symm]
  · intro b hb
    simp only [SL.fp, List.mem_cons, List.not_mem_nil, or_false] at hb
    rcases hb with rfl | rfl | rfl | rfl
    · exact .inl rfl
    · exact .inr (m1.back hd1)
    · exact .inr (m1.back hu1)
    · exact .inr (m2.back ho2)
  · refine (((m2.setI (by simp) hp2).lay ho).setI (by simp) (by rw [upd_ne hop.symm, upd_same])).drop ?_
    intro b hb
    simp only [SL.fp, List.mem_cons, List.not_mem_nil, or_false] at hb ⊢
    grind
theorem ok_Service_write_if_needed {f : Addr} {fd : FuncData} (F : Fun K "write_if_needed" "Service.write_if_needed" s_Service_write_if_needed f fd) (T : Txt K mg c) (D_Disk_write : MethOk P w K mg base c.dk "write" 1 ["self", "limit"] (sp_Disk_write K c)) (D_Disk_current : MethOk P w K mg base c.dk "current" 1 ["self"] (sp_Disk_current K c)) : FnOk P w K mg base CX0 2 f fd ["self", "reserve"] (sp_Service_write_if_needed K c) := by
  refine F.ok sc_Service_write_if_needed (fun vs H Q E h => ?_) (fun cdv A outer s H vs Q E hr h => ?_)
  · obtain ⟨l, m, rv, rfl, A, hz, k⟩ := h
    rfl
  obtain ⟨l, m, rv, rfl, A, hz, k⟩ := h
  refine ⟨_, (pss_cons (ps_if (pt_cmpR op_lt (pe_fld (pv 0) rfl) (pe_methD0 (pe_fld (pv 0) rfl) T.c_dk D_Disk_current (hr.mono (by decide))) (nomark _)) (pss_one (ps_ret (pe_lst pa_nil))) pss_nil)
      (pss_cons (ps_set (i := 2) sc_Service_write_if_needed.nd rfl (Or.inl rfl) (pe_op op_add (pe_fld (pv 0) rfl) (pv 1)))
      (pss_cons (ps_expr (pe_methD (pe_fld (pv 0) rfl) T.c_dk D_Disk_write (hr.mono (by decide)) (pa_cons (pv 2) pa_nil)))
      (pss_one (ps_ret (pe_lst (pa_cons (pe_tup (pa_cons (pe_gc T.g_WROTE) (pa_cons (pe_fld (pv 0) rfl) (pa_cons pe_int (pa_cons pe_int (pa_cons pe_int (pa_cons (pv 2) pa_nil))))))) pa_nil))))))), ?_⟩
  refine q_ifn (a_val (v_lt (v_sv_next T A (val_var rfl)) (v_cur (v_sv_disk T A (val_var rfl)) A.dk))) (fun h => ?_) (fun h => ?_)
  · have h1 : m.next < m.disk.current := of_decide_eq_true h
    refine s_retL av_nil fun r hr => ?_
    have e1 : m.wrote rv = m := if_pos h1
    have e2 : m.wroteRows rv = [] := if_pos h1
    refine k _ r ?_ ⟨[], ?_, ?_⟩ hr (.side hr)
    · rw [e1]
      exact A.same (same_new hr)
    · rw [upd_same]
      rfl
    · rw [e2]
      exact .nil
  · have h1 : ¬ m.next < m.disk.current := of_decide_eq_false h
    refine q_set (v_add (v_sv_next T A (val_var rfl)) (val_var rfl)) ?_
    obtain ⟨dd, hd⟩ := A.dk.ob
    refine q_xdrop (x_meth (v_sv_disk T A (val_var rfl)) hd m_dk_write (av_cons (val_var rfl) av_nil) ?_)
    refine ⟨l.d, l.u, m.disk, m.next + rv, rfl, A.dk, hz, fun H1 B mv => ?_⟩
    obtain ⟨A1, mv1⟩ := A.setDisk B (.inl rfl) mv
    have e1 : m.wrote rv = { m with disk := m.disk.write (m.next + rv) } := if_neg h1
    have e2 : m.wroteRows rv = [⟨1, m.life, 0, 0, 0, m.next + rv⟩] := if_neg h1
    refine x_ret (x_row1 (row := [1, m.life, 0, 0, 0, m.next + rv]) (av_cons val_c (av_cons (v_to (v_sv_life T A1 (val_var rfl)) rfl) (av_cons val_c (av_cons val_c (av_cons val_c (av_cons (val_var rfl) av_nil)))))) fun H2 r R hr s2 => ?_)
    refine k H2 r ?_ ?_ ?_ (mv1.trans (.of_same s2))
    · rw [e1]
      exact A1.same s2
    · rw [e2]
      exact R
    · exact mv1.back hr
theorem ok_Service_serve {f : Addr} {fd : FuncData} (F : Fun K "serve" "Service.serve" s_Service_serve f fd) (T : Txt K mg c) (D_Service_write_if_needed : MethOk P w K mg base c.sv "write_if_needed" 2 ["self", "reserve"] (sp_Service_write_if_needed K c)) : FnOk P w K mg base CX0 3 f fd ["self", "message", "reserve"] (sp_Service_serve K c) := by
  refine F.ok sc_Service_serve (fun vs H Q E h => ?_) (fun cdv A outer s H vs Q E hr h => ?_)
  · obtain ⟨l, m, rv, t, ev, rfl, A, ht, hz1, hz2, k⟩ := h
    rfl
  obtain ⟨l, m, rv, t, ev, rfl, A, ht, hz1, hz2, k⟩ := h
  refine ⟨_, (pss_cons (ps_set (i := 3) sc_Service_serve.nd rfl (Or.inl rfl) (pe_methD (pv 0) T.c_sv D_Service_write_if_needed (hr.mono (by decide)) (pa_cons (pv 2) pa_nil)))
      (pss_cons (ps_set (i := 4) sc_Service_serve.nd rfl (Or.inl rfl) (pe_ix ix_tup (pv 1) pe_int (fun _ _ => rfl)))
      (pss_cons (ps_set (i := 5) sc_Service_serve.nd rfl (Or.inl rfl) (pe_ix ix_tup (pv 1) pe_int (fun _ _ => rfl)))
      (pss_cons (ps_set (i := 6) sc_Service_serve.nd rfl (Or.inl rfl) (pe_ix ix_tup (pv 1) pe_int (fun _ _ => rfl)))
      (pss_cons (ps_expr (pe_bm PySem.F.plainAttrs_list PySem.F.slot_list_append PySem.F.type_list_append mt_append (pe_fld (pv 0) rfl) (pa_cons (pe_tup (pa_cons (pe_gc T.g_REPLY) (pa_cons (pv 4) (pa_cons (pv 5) (pa_cons (pv 6) (pa_cons (pe_fld (pv 0) rfl) pa_nil)))))) pa_nil)))
      (pss_cons (ps_expr (pe_bm PySem.F.plainAttrs_list PySem.F.slot_list_append PySem.F.type_list_append mt_append (pv 3) (pa_cons (pe_tup (pa_cons (pe_gc T.g_MADE) (pa_cons (pe_fld (pv 0) rfl) (pa_cons (pv 4) (pa_cons (pv 5) (pa_cons (pv 6) (pa_cons (pe_fld (pv 0) rfl) pa_nil))))))) pa_nil)))
      (pss_cons (ps_fld (pv 0) (pe_op op_add (pe_fld (pv 0) rfl) pe_int) rfl)
      (pss_one (ps_ret (pv 3)))))))))), ?_⟩
  obtain ⟨ds, hs⟩ := A.ob
  refine q_xset (x_meth (val_var rfl) hs m_sv_write_if_needed (av_cons (val_var rfl) av_nil) ?_)
  refine ⟨l, m, rv, rfl, A, hz1, fun H1 r A1 R hr mv1 => ?_⟩
  have ht1 := mv1.tup ht
  have hrs : r ∉ l.fp := A.fresh hr
  have hrs2 := hrs
  simp only [SL.fp, List.mem_cons, List.not_mem_nil, or_false, not_or] at hrs2
  have eo : (m.wrote rv).outbox = m.outbox := by
    unfold MSrv.wrote
    split <;> rfl
  have en : (m.wrote rv).next = m.next := by
    unfold MSrv.wrote
    split <;> rfl
  have el : (m.wrote rv).life = m.life := by
    unfold MSrv.wrote
    split <;> rfl
  refine q_set (v_ixT (val_var rfl) val_c (SqT.of ht1) (get_atI (v := .int ev.c) (k := 1) rfl rfl)) ?_
  refine q_set (v_ixT (val_var rfl) val_c (SqT.of ht1) (get_atI (v := .int ev.b) (k := 2) rfl rfl)) ?_
  refine q_set (v_ixT (val_var rfl) val_c (SqT.of ht1) (get_atI (v := .int ev.n) (k := 3) rfl rfl)) ?_
  refine q_push (row := (M5.mk 1 ev.c ev.b ev.n m.next).row) (v_sv_outbox T A1 (val_var rfl)) A1.out (av_cons val_c (av_cons (val_var rfl) (av_cons (val_var rfl) (av_cons (val_var rfl) (av_cons (v_to (v_sv_next T A1 (val_var rfl)) (by rw [en])) av_nil))))) (by rw [List.length_map, eo]; exact hz2) fun H2 O2 mv2 => ?_
  have A2 : SrvAt c H2 l { m.wrote rv with outbox := m.outbox ++ [M5.mk 1 ev.c ev.b ev.n m.next] } := A1.push (by
    rw [List.map_append, ← eo]
    exact O2) mv2
  have R2 := mv2.rows R (by simp [hrs2.2.2.2])
  refine q_push (row := (M6.mk 2 m.life ev.c ev.b ev.n m.next).row) (val_var rfl) R2 (av_cons val_c (av_cons (v_to (v_sv_life T A2 (val_var rfl)) (by rw [← el])) (av_cons (val_var rfl) (av_cons (val_var rfl) (av_cons (val_var rfl) (av_cons (v_to (v_sv_next T A2 (val_var rfl)) (by rw [← en])) av_nil)))))) ?_ fun H3 R3 mv3 => ?_
  · rw [List.length_map]
    unfold MSrv.wroteRows
    split
    · show 0 < 1000000
      decide
    · show 1 < 1000000
      decide
  have A3 := A2.mv mv3 (by
    intro b hb q
    simp only [List.mem_cons, List.not_mem_nil, or_false] at q
    rw [q] at hb
    exact hrs hb)
  obtain ⟨ds3, hs3⟩ := A3.ob
  refine q_fld (v_add (i := m.next) (v_to (v_sv_next T A3 (val_var rfl)) (congrArg V.int en)) val_c) (val_var rfl) hs3 T.c_sv T.a_sv_next_stamp l_sv ?_
  rw [p_sv_next_stamp]
  have mv4 : Mv [l.s] H3 [l.s] (upd H3 l.s (.ins c.sv ds3 (f_sv (.bl (m.wrote rv).up) (.ref l.d) (.int (m.next + 1)) (.ref l.o) (.int (m.wrote rv).life)))) := .updI (by simp) hs3
  refine st_ret (val_var rfl) (k _ r ?_ ?_ hr ?_)
  · have z := A3.set upd_same mv4
    have e : m.serve ev rv = { m.wrote rv with outbox := m.outbox ++ [M5.mk 1 ev.c ev.b ev.n m.next], next := m.next + 1 } := by
      show { m.wrote rv with outbox := (m.wrote rv).outbox ++ [M5.mk 1 ev.c ev.b ev.n (m.wrote rv).next], next := (m.wrote rv).next + 1 } = _
      rw [eo, en]
    rw [e]
    exact z
  · have z := mv4.rows R3 (by simp [hrs2.1])
    show RowsAt _ r ((m.wroteRows rv ++ [M6.mk 2 m.life ev.c ev.b ev.n m.next]).map M6.row)
    rw [List.map_append]
    exact z
  · exact ((((mv1.more hr).trans (.in1 (by simp [SL.fp]) mv2)).trans (.in1 (by simp) mv3)).trans (.in1 (by simp [SL.fp]) mv4)).less
theorem ok_Service_force {f : Addr} {fd : FuncData} (F : Fun K "force" "Service.force" s_Service_force f fd) (T : Txt K mg c) (D_Disk_force : MethOk P w K mg base c.dk "force" 2 ["self"] (sp_Disk_force K c)) : FnOk P w K mg base CX0 3 f fd ["self"] (sp_Service_force K c) := by
  refine F.ok sc_Service_force (fun vs H Q E h => ?_) (fun cdv A outer s H vs Q E hr h => ?_)
  · obtain ⟨l, m, rfl, A, hz, k⟩ := h
    rfl
  obtain ⟨l, m, rfl, A, hz, k⟩ := h
  refine ⟨_, (pss_cons (ps_expr (pe_methD0 (pe_fld (pv 0) rfl) T.c_dk D_Disk_force (hr.mono (by decide))))
      (pss_cons (ps_set (i := 1) sc_Service_force.nd rfl (Or.inl rfl) (pe_lst pa_nil))
      (pss_cons (ps_for PassesOwn.never rfl (pi_list (pe_fld (pv 0) rfl)) (pg_name (i := 2) sc_Service_force.nd rfl (Or.inl rfl)) (pss_one (ps_expr (pe_bm PySem.F.plainAttrs_list PySem.F.slot_list_append PySem.F.type_list_append mt_append (pv 1) (pa_cons (pe_tup (pa_cons (pe_gc T.g_SENT_service) (pa_cons (pe_fld (pv 0) rfl) (pa_cons (pe_ix ix_tup (pv 2) pe_int (fun _ _ => rfl)) (pa_cons (pe_ix ix_tup (pv 2) pe_int (fun _ _ => rfl)) (pa_cons (pe_ix ix_tup (pv 2) pe_int (fun _ _ => rfl)) (pa_cons (pe_ix ix_tup (pv 2) pe_int (fun _ _ => rfl)) pa_nil))))))) pa_nil)))))
      (pss_cons (ps_fld (pv 0) (pe_lst pa_nil) rfl)
      (pss_one (ps_ret (pv 1))))))), ?_⟩
  obtain ⟨n1, n2, n3, n4, n5, n6⟩ := A.nes
  obtain ⟨dd, hd⟩ := A.dk.ob
  refine q_xdrop (x_meth0 (v_sv_disk T A (val_var rfl)) hd m_dk_force ?_)
  refine ⟨l.d, l.u, m.disk, rfl, A.dk, fun H1 u' B hu mv => ?_⟩
  obtain ⟨A1, mv1⟩ := A.setDisk B (.inr hu) mv
  refine q_xset (x_lst av_nil fun r hr => ?_)
  have A2 := A1.same (same_new (o := .lst []) hr)
  obtain ⟨as, ho, hts⟩ := id A2.out
  have hr1 : r ∉ ({ l with u := u' } : SL).fp := A1.fresh hr
  refine tFor_list (v_sv_outbox T A2 (val_var rfl)) (SqL.of ho) (fun i σ H' => ∃ v, σ = [some (.ref l.s), some (.ref r), v] ∧ RowsAt H' r ((m.forceRows.take i).map M6.row) ∧ Mv [r] (upd H1 r (.lst [])) [r] H') ⟨none, rfl, ⟨[], upd_same, .nil⟩, .refl _ _⟩ ?_ ?_ ?_
  · rintro i σ' H' _ ⟨v, rfl, R, mv2⟩
    exact SqL.of (mv2.get ho (by
      simp only [List.mem_cons, List.not_mem_nil, or_false]
      intro q
      exact hr1 (by simp [SL.fp, q])))
  · rintro i x σ' H' hx ⟨v, rfl, R, mv2⟩
    have hi : i < m.outbox.length := by
      have z := (List.getElem?_eq_some_iff.mp hx).1
      rw [List.length_map, hts.len, List.length_map] at z
      exact z
    obtain ⟨e, he⟩ : ∃ e, m.outbox[i]? = some e := ⟨_, List.getElem?_eq_getElem hi⟩
    obtain ⟨a, ha, hat⟩ := hts.get (i := i) (r := e.row) (by rw [List.getElem?_map, he]; rfl)
    have hxa : x = .ref a := by
      rw [List.getElem?_map, ha] at hx
      exact (Option.some.inj hx).symm
    subst hxa
    have hat2 := mv2.tup hat
    have A3 := A2.mv mv2 (by
      intro b hb q
      simp only [List.mem_cons, List.not_mem_nil, or_false] at q
      rw [q] at hb
      exact hr1 hb)
    refine s_push (row := (M6.mk 3 m.life e.c e.b e.n e.s).row) (val_var rfl) R (av_cons val_c (av_cons (v_to (v_sv_life T A3 (val_var rfl)) rfl) (av_cons (v_ixT (val_var rfl) val_c (SqT.of hat2) (get_atI (v := .int e.c) (k := 1) rfl rfl)) (av_cons (v_ixT (val_var rfl) val_c (SqT.of hat2) (get_atI (v := .int e.b) (k := 2) rfl rfl)) (av_cons (v_ixT (val_var rfl) val_c (SqT.of hat2) (get_atI (v := .int e.n) (k := 3) rfl rfl)) (av_cons (v_ixT (val_var rfl) val_c (SqT.of hat2) (get_atI (v := .int e.s) (k := 4) rfl rfl)) av_nil)))))) ?_ fun H3 R3 mv3 => ?_
    · rw [List.length_map, List.length_take]
      exact Nat.lt_of_le_of_lt (Nat.min_le_left _ _) (by omega)
    · refine ⟨some (.ref a), rfl, ?_, mv2.trans mv3⟩
      have q : m.forceRows.take (i + 1) = m.forceRows.take i ++ [M6.mk 3 m.life e.c e.b e.n e.s] := by
        rw [List.take_add_one]
        congr 1
        unfold MSrv.forceRows
        rw [List.getElem?_map, he]
        rfl
      rw [q, List.map_append]
      exact R3
  · rintro σ' H2 ⟨v, rfl, R, mv2⟩
    have e : (m.forceRows.take (as.map V.ref).length).map M6.row = m.forceRows.map M6.row := by
      rw [List.take_of_length_le]
      rw [List.length_map, hts.len, List.length_map]
      unfold MSrv.forceRows
      rw [List.length_map]
      exact Nat.le_refl _
    rw [e] at R
    have A3 := A2.mv mv2 (by
      intro b hb q
      simp only [List.mem_cons, List.not_mem_nil, or_false] at q
      rw [q] at hb
      exact hr1 hb)
    obtain ⟨ds, hs⟩ := A3.ob
    refine q_fld0 (fun H => val_var rfl) hs T.c_sv T.a_sv_outbox l_sv fun o' ho' hne => ?_
    rw [p_sv_outbox]
    have hro : r ≠ o' := by
      obtain ⟨xs, z⟩ := R.live
      exact ne_of_none z ho'
    have mv4 : Mv [l.s] H2 [l.s, o'] (upd (upd H2 o' (.lst [])) l.s (.ins c.sv ds (f_sv (.bl m.up) (.ref l.d) (.int m.next) (.ref o') (.int m.life)))) :=
      (((Mv.refl [l.s] H2).lay ho').setI (by simp) (by rw [upd_ne hne.symm]; exact hs)).drop (by simp)
    obtain ⟨A4, mv5⟩ := A3.newOut (dx := ds) (up := m.up) (nx := m.next) (lf := m.life) ho' ⟨[], by rw [upd_ne hne, upd_same]; rfl, .nil⟩ upd_same mv4
    have hrf : r ∉ ({ l with u := u', o := o' } : SL).fp := by
      simp only [SL.fp, List.mem_cons, List.not_mem_nil, or_false, not_or] at hr1 ⊢
      exact ⟨hr1.1, hr1.2.1, hr1.2.2.1, hro⟩
    have hr0 : H r = none := mv1.back hr
    refine st_ret (val_var rfl) (k _ _ r A4 rfl (mv4.rows R ?_) hr0 hrf ?_)
    · simp only [List.mem_cons, List.not_mem_nil, or_false]
      intro q
      exact hr1 (by simp [SL.fp, q])
    · have z1 : Mv l.fp H (r :: ({ l with u := u' } : SL).fp) (upd H1 r (.lst [])) := (mv1.aside hr).more hr0
      exact ((z1.trans (.in1 (by simp) mv2)).less).trans mv5
theorem ok_Service_crash {f : Addr} {fd : FuncData} (F : Fun K "crash" "Service.crash" s_Service_crash f fd) (T : Txt K mg c) (D_Disk_current : MethOk P w K mg base c.dk "current" 1 ["self"] (sp_Disk_current K c)) (D_Disk_crash : MethOk P w K mg base c.dk "crash" 1 ["self", "kept"] (sp_Disk_crash K c)) : FnOk P w K mg base CX0 2 f fd ["self", "kept"] (sp_Service_crash K c) := by
  refine F.ok sc_Service_crash (fun vs H Q E h => ?_) (fun cdv A outer s H vs Q E hr h => ?_)
  · obtain ⟨l, m, kept, rfl, A, k⟩ := h
    rfl
  obtain ⟨l, m, kept, rfl, A, k⟩ := h
  refine ⟨_, (pss_cons (ps_expr (pe_methD (pe_fld (pv 0) rfl) T.c_dk D_Disk_crash (hr.mono (by decide)) (pa_cons (pv 1) pa_nil)))
      (pss_cons (ps_fld (pv 0) (pe_lst pa_nil) rfl)
      (pss_cons (ps_fld (pv 0) pe_bl rfl)
      (pss_one (ps_ret (pe_lst (pa_cons (pe_tup (pa_cons (pe_gc T.g_CRASHED) (pa_cons (pe_fld (pv 0) rfl) (pa_cons pe_int (pa_cons pe_int (pa_cons pe_int (pa_cons (pe_methD0 (pe_fld (pv 0) rfl) T.c_dk D_Disk_current (hr.mono (by decide))) pa_nil))))))) pa_nil))))))), ?_⟩
  obtain ⟨dd, hd⟩ := A.dk.ob
  refine q_xdrop (x_meth (v_sv_disk T A (val_var rfl)) hd m_dk_crash (av_cons (val_var rfl) av_nil) ?_)
  refine ⟨l.d, l.u, m.disk, kept, rfl, A.dk, fun H1 u' B hu mv => ?_⟩
  obtain ⟨A1, mv1⟩ := A.setDisk B (.inr hu) mv
  obtain ⟨ds, hs⟩ := A1.ob
  refine q_fld0 (fun H => val_var rfl) hs T.c_sv T.a_sv_outbox l_sv fun o' ho hne => ?_
  rw [p_sv_outbox]
  refine q_fld val_c (val_var rfl) upd_same T.c_sv T.a_sv_up l_sv ?_
  rw [p_sv_up, upd_upd]
  have mv2 : Mv [l.s] H1 [l.s, o'] (upd (upd H1 o' (.lst [])) l.s (.ins c.sv ds (f_sv (.bl false) (.ref l.d) (.int m.next) (.ref o') (.int m.life)))) :=
    (((Mv.refl [l.s] H1).lay ho).setI (by simp) (by rw [upd_ne hne.symm]; exact hs)).drop (by simp)
  obtain ⟨A2, mv3⟩ := A1.newOut (dx := ds) (up := false) (nx := m.next) (lf := m.life) ho ⟨[], by rw [upd_ne hne, upd_same]; rfl, .nil⟩ upd_same mv2
  refine x_ret (x_row1 (row := (m.crashRow kept).row) (av_cons val_c (av_cons (v_to (v_sv_life T A2 (val_var rfl)) rfl) (av_cons val_c (av_cons val_c (av_cons val_c (av_cons (v_cur (v_sv_disk T A2 (val_var rfl)) A2.dk) av_nil)))))) fun H2 r R hr s2 => ?_)
  refine k H2 _ r (A2.same s2) rfl R ?_ ?_ ((mv1.trans mv3).trans (.of_same s2))
  · exact (mv1.trans mv3).back hr
  · exact A2.fresh hr
theorem ok_Service_restart {f : Addr} {fd : FuncData} (F : Fun K "restart" "Service.restart" s_Service_restart f fd) (T : Txt K mg c) (D_Disk_current : MethOk P w K mg base c.dk "current" 1 ["self"] (sp_Disk_current K c)) : FnOk P w K mg base CX0 2 f fd ["self"] (sp_Service_restart K c) := by
  refine F.ok sc_Service_restart (fun vs H Q E h => ?_) (fun cdv A outer s H vs Q E hr h => ?_)
  · obtain ⟨l, m, rfl, A, k⟩ := h
    rfl
  obtain ⟨l, m, rfl, A, k⟩ := h
  refine ⟨_, (pss_cons (ps_fld (pv 0) pe_bl rfl)
      (pss_cons (ps_fld (pv 0) (pe_op op_add (pe_fld (pv 0) rfl) pe_int) rfl)
      (pss_cons (ps_fld (pv 0) (pe_methD0 (pe_fld (pv 0) rfl) T.c_dk D_Disk_current (hr.mono (by decide))) rfl)
      (pss_one (ps_ret (pe_lst (pa_cons (pe_tup (pa_cons (pe_gc T.g_RESTARTED) (pa_cons (pe_fld (pv 0) rfl) (pa_cons pe_int (pa_cons pe_int (pa_cons pe_int (pa_cons (pe_fld (pv 0) rfl) pa_nil))))))) pa_nil))))))), ?_⟩
  obtain ⟨ds, hs⟩ := A.ob
  refine q_fld val_c (val_var rfl) hs T.c_sv T.a_sv_up l_sv ?_
  rw [p_sv_up]
  refine q_fld (v_add (val_fld (val_var rfl) upd_same T.c_sv T.a_sv_life f_sv_life) val_c) (val_var rfl) upd_same T.c_sv T.a_sv_life l_sv ?_
  rw [p_sv_life, upd_upd]
  have A1 := A.set (H1 := upd H l.s (.ins c.sv ds (f_sv (.bl true) (.ref l.d) (.int m.next) (.ref l.o) (.int (m.life + 1))))) upd_same (.updI (by simp) hs)
  refine q_fld (v_cur (v_sv_disk T A1 (val_var rfl)) A1.dk) (val_var rfl) upd_same T.c_sv T.a_sv_next_stamp l_sv ?_
  rw [p_sv_next_stamp, upd_upd]
  have mv2 : Mv [l.s] H [l.s] (upd H l.s (.ins c.sv ds (f_sv (.bl true) (.ref l.d) (.int m.disk.current) (.ref l.o) (.int (m.life + 1))))) := .updI (by simp) hs
  have A2 : SrvAt c _ l m.restart := A.set upd_same mv2
  refine x_ret (x_row1 (row := m.restartRow.row) (av_cons val_c (av_cons (v_to (v_sv_life T A2 (val_var rfl)) rfl) (av_cons val_c (av_cons val_c (av_cons val_c (av_cons (v_to (v_sv_next T A2 (val_var rfl)) rfl) av_nil)))))) fun H2 r R hr s2 => ?_)
  refine k H2 r (A2.same s2) R ?_ ((Mv.in1 (by simp [SL.fp]) mv2).trans (.of_same s2))
  exact mv2.back hr
theorem ok_Service_twin {f : Addr} {fd : FuncData} (F : Fun K "twin" "Service.twin" s_Service_twin f fd) (T : Txt K mg c) (D_Disk_twin : MethOk P w K mg base c.dk "twin" 3 ["self"] (sp_Disk_twin K c)) (D_Service_init : MakeOk P w K mg base "Service" c.sv 3 ["self"] (sp_Service_init K c)) : FnOk P w K mg base CX0 5 f fd ["self"] (sp_Service_twin K c) := by
  refine F.ok sc_Service_twin (fun vs H Q E h => ?_) (fun cdv A outer s H vs Q E hr h => ?_)
  · obtain ⟨l, m, rfl, A, k⟩ := h
    rfl
  obtain ⟨l, m, rfl, A, k⟩ := h
  refine ⟨_, (pss_cons (ps_set (i := 1) sc_Service_twin.nd rfl (Or.inl rfl) (pe_makeD0 D_Service_init (hr.mono (by decide))))
      (pss_cons (ps_fld (pv 1) (pe_fld (pv 0) rfl) rfl)
      (pss_cons (ps_fld (pv 1) (pe_methD0 (pe_fld (pv 0) rfl) T.c_dk D_Disk_twin (hr.mono (by decide))) rfl)
      (pss_cons (ps_fld (pv 1) (pe_fld (pv 0) rfl) rfl)
      (pss_cons (ps_fld (pv 1) (pe_callTy call_list_of (by rfl) T.z_list (by decide +kernel) (pa_cons (pe_fld (pv 0) rfl) pa_nil)) rfl)
      (pss_cons (ps_fld (pv 1) (pe_fld (pv 0) rfl) rfl)
      (pss_one (ps_ret (pv 1))))))))), ?_⟩
  refine q_xset (x_make av_nil fun x dx nx ndx nex s0 => ?_)
  refine ⟨x, dx, rfl, upd_same, fun H1 l1 B hl1 hf mv => ⟨rfl, ?_⟩⟩
  obtain ⟨s1, fr⟩ := made nx s0 mv
  have A1 := A.same s1
  have hx1 : ∃ dy, H1 x = some (.ins c.sv dy (f_sv (.bl true) (.ref l1.d) (.int 1) (.ref l1.o) (.int 0))) := by
    obtain ⟨dy, z⟩ := B.ob
    rw [hl1] at z
    exact ⟨dy, z⟩
  obtain ⟨dy, hx⟩ := hx1
  have nA : ∀ b ∈ l.fp, b ≠ x := fun b hb => by
    obtain ⟨o, e⟩ := A.live b hb
    exact ne_of_none e nx
  -- the source is not touched by the stores at x
  have keep : ∀ {G : Hp} (o : HO), SrvAt c G l m → (∃ o', G x = some o' ∧ ∀ xs, o' ≠ .tup xs) → SrvAt c (upd G x o) l m := fun {G} o a ⟨o', e, nt⟩ => a.mv (S := [x]) (S' := [x]) (.upd (by simp) fun xs q => nt xs (by rw [e] at q; exact Option.some.inj q)) (by
    intro b hb
    simp only [List.mem_cons, List.not_mem_nil, or_false]
    exact nA b hb)
  refine q_fld (v_sv_up T A1 (val_var rfl)) (val_var rfl) hx T.c_sv T.a_sv_up l_sv ?_
  rw [p_sv_up]
  generalize hH2 : upd H1 x (.ins c.sv dy (f_sv (.bl m.up) (.ref l1.d) (.int 1) (.ref l1.o) (.int 0))) = H2
  have hx2 : H2 x = some (.ins c.sv dy (f_sv (.bl m.up) (.ref l1.d) (.int 1) (.ref l1.o) (.int 0))) := by
    rw [← hH2, upd_same]
  have A2 : SrvAt c H2 l m := by
    rw [← hH2]
    exact keep _ A1 ⟨_, hx, by intro xs q; cases q⟩
  have b2 : ∀ b, H2 b = none → H1 b = none := fun b hb => (Mv.updI (S := [x]) (o := .ins c.sv dy (f_sv (.bl m.up) (.ref l1.d) (.int 1) (.ref l1.o) (.int 0))) (by simp) hx).back (by rw [hH2]; exact hb)
  obtain ⟨dd, hd⟩ := A2.dk.ob
  refine q_xfld (x_meth0 (v_sv_disk T A2 (val_var rfl)) hd m_dk_twin ?_)
  refine ⟨l.d, l.u, m.disk, rfl, A2.dk, fun H3 d' u' D3 hd' hu' s3 => ?_⟩
  refine ⟨_, rfl, x, c.sv, dy, _, rfl, s3 _ _ hx2, T.c_sv, T.a_sv_disk, l_sv, ?_⟩
  rw [p_sv_disk]
  have A3 := keep (.ins c.sv dy (f_sv (.bl m.up) (.ref d') (.int 1) (.ref l1.o) (.int 0))) (A2.same s3) ⟨_, s3 _ _ hx2, by intro xs q; cases q⟩
  refine q_fld (v_sv_next T A3 (val_var rfl)) (val_var rfl) upd_same T.c_sv T.a_sv_next_stamp l_sv ?_
  rw [p_sv_next_stamp, upd_upd]
  have A4 := keep (.ins c.sv dy (f_sv (.bl m.up) (.ref d') (.int m.next) (.ref l1.o) (.int 0))) (A2.same s3) ⟨_, s3 _ _ hx2, by intro xs q; cases q⟩
  obtain ⟨as, ho, hts⟩ := id A4.out
  refine q_xfld (x_cb (av_cons (v_sv_outbox T A4 (val_var rfl)) av_nil) ?_)
  refine ⟨l.o, as.map V.ref, rfl, .inl (SqL.of ho), fun o' ho' => ?_⟩
  have hox : o' ≠ x := fun q => by
    rw [q, upd_same] at ho'
    cases ho'
  refine ⟨_, rfl, x, c.sv, dy, _, rfl, by rw [upd_ne hox.symm, upd_same], T.c_sv, T.a_sv_outbox, l_sv, ?_⟩
  rw [p_sv_outbox]
  have ho3 : H3 o' = none := by
    rw [upd_ne hox] at ho'
    exact ho'
  generalize hH5 : upd (upd (upd H3 x (.ins c.sv dy (f_sv (.bl m.up) (.ref d') (.int m.next) (.ref l1.o) (.int 0)))) o' (.lst (as.map V.ref))) x (.ins c.sv dy (f_sv (.bl m.up) (.ref d') (.int m.next) (.ref o') (.int 0))) = H5
  have hx5 : H5 x = some (.ins c.sv dy (f_sv (.bl m.up) (.ref d') (.int m.next) (.ref o') (.int 0))) := by
    rw [← hH5, upd_same]
  have mv5 : Mv [x] H3 [x] H5 := by
    rw [← hH5]
    exact ((Mv.updI (by simp) (s3 _ _ hx2)).aside ho').setI (by simp) (by rw [upd_ne hox.symm, upd_same])
  have A5 : SrvAt c H5 l m := (A2.same s3).mv mv5 (by
    intro b hb
    simp only [List.mem_cons, List.not_mem_nil, or_false]
    exact nA b hb)
  refine q_fld (v_sv_life T A5 (val_var rfl)) (val_var rfl) hx5 T.c_sv T.a_sv_life l_sv ?_
  rw [p_sv_life]
  have hd1 : H1 d' = none := b2 _ hd'
  have hu1 : H1 u' = none := b2 _ hu'
  have ho1 : H1 o' = none := b2 _ (s3.free ho3)
  have hdx : d' ≠ x := (ne_of_none hx hd1).symm
  have hux : u' ≠ x := (ne_of_none hx hu1).symm
  obtain ⟨⟨dz, z1⟩, z2⟩ := id D3
  have hdo : o' ≠ d' := (ne_of_none z1 ho3).symm
  have huo : o' ≠ u' := (ne_of_none z2 ho3).symm
  have mv6 : Mv [x] H3 [x] (upd H5 x (.ins c.sv dy (f_sv (.bl m.up) (.ref d') (.int m.next) (.ref o') (.int m.life)))) := mv5.setI (by simp) hx5
  refine st_ret (val_var rfl) (k _ ⟨x, d', u', o'⟩ ⟨⟨dy, upd_same⟩, D3.mv mv6 (by simpa using hdx) (by simpa using hux), ⟨as, ?_, mv6.tups ((Mv.of_same (S := []) s3).tups (by
    have q := A2.out
    obtain ⟨bs, q1, q2⟩ := q
    have e1 : as.map V.ref = bs.map V.ref := by
      have q3 : (upd H3 x (.ins c.sv dy (f_sv (.bl m.up) (.ref d') (.int m.next) (.ref l1.o) (.int 0)))) l.o = some (.lst (bs.map V.ref)) := by
        rw [upd_ne (nA _ (by simp [SL.fp]))]
        exact s3 _ _ q1
      rw [q3] at ho
      exact (HO.lst.inj (Option.some.inj ho)).symm
    have e2 : as = bs := map_ref e1
    rw [e2]
    exact q2))⟩, ?_⟩ ?_ ?_)
  · rw [upd_ne hox, ← hH5, upd_ne hox, upd_same]
  · simp [SL.fp, hdx.symm, hux.symm, hox.symm, D3.ne.symm, hdo.symm, huo.symm]
  · intro b hb
    simp only [SL.fp, List.mem_cons, List.not_mem_nil, or_false] at hb
    rcases hb with rfl | rfl | rfl | rfl
    · exact nx
    · exact s1.free hd1
    · exact s1.free hu1
    · exact s1.free ho1
  · intro b o e
    refine mv6.get (s3 _ _ ?_) (by simpa using ne_of_none e nx)
    rw [← hH2, upd_ne (ne_of_none e nx)]
    exact s1 _ _ e
end
end Tz
namespace Tz
open PySem PySem.Spec PyProof.Rows L2
/-! ### the clients -/
section
variable {c : CA} {H H1 : Hp}
theorem psFp_cons (l : PL) (ps : List PL) : psFp (l :: ps) = l.p :: l.r :: psFp ps := rfl
theorem PartiesAt.len {ps : List PL} {ms : List MParty} (h : PartiesAt c H ps ms) : ps.length = ms.length := Paired.length h
theorem PartiesAt.get : ∀ {ps : List PL} {ms : List MParty} {i : Nat} {m : MParty}, PartiesAt c H ps ms → ms[i]? = some m → ∃ l, ps[i]? = some l ∧ PartyAt c H l m
  | _, _, _, _, .nil, e => by simp at e
  | _, _, 0, _, .cons h _, e => by simp at e; subst e; exact ⟨_, rfl, h⟩
  | _, _, i + 1, m, .cons _ t, e => by
    obtain ⟨l, h1, h2⟩ := PartiesAt.get (i := i) (m := m) t (by simpa using e)
    exact ⟨l, by simpa using h1, h2⟩
theorem PartiesAt.mv {S S' : List Addr} : ∀ {ps : List PL} {ms : List MParty}, PartiesAt c H ps ms → Mv S H S' H1 → (∀ b ∈ psFp ps, b ∉ S) → PartiesAt c H1 ps ms
  | _, _, .nil, _, _ => .nil
  | _, _, .cons h t, a, n => .cons (h.mv a (n _ (by rw [psFp_cons]; simp)) (n _ (by rw [psFp_cons]; simp))) (PartiesAt.mv t a fun b hb => n b (by rw [psFp_cons]; simp [hb]))
theorem PartiesAt.live : ∀ {ps : List PL} {ms : List MParty}, PartiesAt c H ps ms → ∀ b ∈ psFp ps, ∃ o, H b = some o
  | _, _, .nil, b, hb => absurd hb (by simp [psFp])
  | _, _, .cons h t, b, hb => by
    rw [psFp_cons] at hb
    obtain ⟨⟨dx, h1⟩, h2⟩ := h
    rcases List.mem_cons.mp hb with q | q
    · rw [q]
      exact ⟨_, h1⟩
    · rcases List.mem_cons.mp q with z | z
      · rw [z]
        exact ⟨_, h2⟩
      · exact PartiesAt.live t b z
theorem fp_mem : ∀ {ps : List PL} {i : Nat} {l : PL}, ps[i]? = some l → l.p ∈ psFp ps ∧ l.r ∈ psFp ps
  | [], _, _, e => by simp at e
  | x :: r, 0, l, e => by
    simp at e
    subst e
    rw [psFp_cons]
    simp
  | x :: r, i + 1, l, e => by
    have z := fp_mem (ps := r) (i := i) (l := l) (by simpa using e)
    rw [psFp_cons]
    simp [z]
theorem PartiesAt.set : ∀ {ps : List PL} {ms : List MParty} {i : Nat} {l : PL} {m' : MParty}, PartiesAt c H ps ms → (psFp ps).Nodup → ps[i]? = some l → PartyAt c H1 l m' → Mv l.fp H l.fp H1 → PartiesAt c H1 ps (ms.set i m')
  | _, _, _, _, _, .nil, _, e, _, _ => by simp at e
  | _, _, 0, l, m', .cons h t, nd, e, A, a => by
    simp at e
    subst e
    rw [psFp_cons] at nd
    refine .cons A (PartiesAt.mv t a fun b hb q => ?_)
    simp only [PL.fp, List.mem_cons, List.not_mem_nil, or_false] at q
    simp only [List.nodup_cons, List.mem_cons, not_or] at nd
    rcases q with rfl | rfl
    · exact nd.1.2 hb
    · exact nd.2.1 hb
  | _, _, i + 1, l, m', .cons (a := x) h t, nd, e, A, a => by
    rw [psFp_cons] at nd
    simp only [List.nodup_cons, List.mem_cons, not_or] at nd
    have e' := (show (_ :: _)[i + 1]? = some l from e)
    rw [List.getElem?_cons_succ] at e'
    obtain ⟨z1, z2⟩ := fp_mem e'
    refine .cons (h.mv a ?_ ?_) (PartiesAt.set t nd.2.2 e' A a)
    · simp only [PL.fp, List.mem_cons, List.not_mem_nil, or_false, not_or]
      exact ⟨fun q => nd.1.2 (q ▸ z1), fun q => nd.1.2 (q ▸ z2)⟩
    · simp only [PL.fp, List.mem_cons, List.not_mem_nil, or_false, not_or]
      exact ⟨fun q => nd.2.1 (q ▸ z1), fun q => nd.2.1 (q ▸ z2)⟩
end
/-! ### a world -/
section
variable {c : CA} {H H1 : Hp} {L : WL} {m : MWorld}
theorem WL.own_mem (b : Addr) (L : WL) : b ∈ L.own ↔ b = L.w ∨ b = L.pl ∨ b = L.n ∨ b = L.t := by
  simp [WL.own]
theorem WL.fp_mem (b : Addr) (L : WL) : b ∈ L.fp ↔ b ∈ L.own ∨ b ∈ L.sl.fp ∨ b ∈ psFp L.ps := by
  simp [WL.fp]
theorem WorldAt.nes (h : WorldAt c H L m) : L.w ≠ L.pl ∧ L.w ≠ L.n ∧ L.w ≠ L.t ∧ L.pl ≠ L.n ∧ L.pl ≠ L.t ∧ L.n ≠ L.t := by
  have z := h.nd
  simp only [WL.own, List.nodup_cons, List.mem_cons, List.not_mem_nil, or_false, not_or, List.nodup_nil, and_true, not_false_eq_true] at z
  exact ⟨z.1.1, z.1.2.1, z.1.2.2, z.2.1.1, z.2.1.2, z.2.2⟩
theorem WorldAt.live (h : WorldAt c H L m) : ∀ b ∈ L.fp, ∃ o, H b = some o := by
  intro b hb
  rw [WL.fp_mem, WL.own_mem] at hb
  rcases hb with (rfl | rfl | rfl | rfl) | hb | hb
  · obtain ⟨dx, e⟩ := h.ob
    exact ⟨_, e⟩
  · exact ⟨_, h.pl⟩
  · obtain ⟨xs, e⟩ := h.net.live
    exact ⟨_, e⟩
  · obtain ⟨xs, e⟩ := h.tr.live
    exact ⟨_, e⟩
  · exact h.sv.live b hb
  · exact h.ps.live b hb
theorem WorldAt.fresh (h : WorldAt c H L m) {r : Addr} (hr : H r = none) : r ∉ L.fp := fun q => by
  obtain ⟨o, e⟩ := h.live r q
  rw [hr] at e
  cases e
theorem WorldAt.mv {S S' : List Addr} (h : WorldAt c H L m) (a : Mv S H S' H1) (hn : ∀ b ∈ L.fp, b ∉ S) : WorldAt c H1 L m := by
  obtain ⟨⟨dx, h1⟩, h2, h3, h4, h5, h6, h7, h8, h9, h10⟩ := h
  have o : ∀ b ∈ L.own, b ∉ S := fun b hb => hn b ((WL.fp_mem b L).mpr (.inl hb))
  refine ⟨⟨dx, a.get h1 (o _ ((WL.own_mem _ _).mpr (.inl rfl)))⟩, h2.mv a fun b hb => hn b ((WL.fp_mem b L).mpr (.inr (.inl hb))), a.get h3 (o _ ((WL.own_mem _ _).mpr (.inr (.inl rfl)))),
    h4.mv a fun b hb => hn b ((WL.fp_mem b L).mpr (.inr (.inr hb))), a.rows h5 (o _ ((WL.own_mem _ _).mpr (.inr (.inr (.inl rfl))))), a.rows h6 (o _ ((WL.own_mem _ _).mpr (.inr (.inr (.inr rfl))))), h7, h8, h9, h10⟩
theorem WorldAt.same (h : WorldAt c H L m) (s : Same H H1) : WorldAt c H1 L m := h.mv (S := []) (S' := []) (.of_same s) (by simp)
/-- the service has changed -/
theorem WorldAt.setSrv {sl' : SL} {s' : MSrv} (h : WorldAt c H L m) (A : SrvAt c H1 sl' s') (e : sl'.s = L.sl.s) (a : Mv L.sl.fp H sl'.fp H1) : WorldAt c H1 { L with sl := sl' } { m with srv := s' } ∧ Mv L.fp H ({ L with sl := sl' } : WL).fp H1 := by
  obtain ⟨⟨dx, h1⟩, h2, h3, h4, h5, h6, h7, h8, h9, h10⟩ := id h
  have o : ∀ b ∈ L.own, b ∉ L.sl.fp := fun b hb q => h8 b q hb
  have q : ∀ b ∈ psFp L.ps, b ∉ L.sl.fp := fun b hb => (h10 b hb).2
  have lv : ∀ b, b ∈ L.own ∨ b ∈ psFp L.ps → b ∉ sl'.fp := fun b hb z => by
    rcases a.new b z with z1 | z1
    · rcases hb with hb | hb
      · exact o b hb z1
      · exact q b hb z1
    · obtain ⟨ob, e1⟩ := h.live b ((WL.fp_mem b L).mpr (hb.imp id .inr))
      rw [z1] at e1
      cases e1
  refine ⟨⟨⟨dx, ?_⟩, A, a.get h3 (o _ ((WL.own_mem _ _).mpr (.inr (.inl rfl)))), h4.mv a q, a.rows h5 (o _ ((WL.own_mem _ _).mpr (.inr (.inr (.inl rfl))))), a.rows h6 (o _ ((WL.own_mem _ _).mpr (.inr (.inr (.inr rfl))))), h7,
    fun b hb z => lv b (.inl z) hb, h9, fun b hb => ⟨(h10 b hb).1, lv b (.inr hb)⟩⟩, a.sub (fun b hb => (WL.fp_mem b L).mpr (.inr (.inl hb))) fun b hb => ?_⟩
  · rw [e]
    exact a.get h1 (o _ ((WL.own_mem _ _).mpr (.inl rfl)))
  · rw [WL.fp_mem] at hb
    rcases hb with hb | hb | hb
    · exact .inr (.inl ((WL.fp_mem b L).mpr (.inl hb)))
    · exact .inl hb
    · exact .inr (.inl ((WL.fp_mem b L).mpr (.inr (.inr hb))))
/-- a client has changed -/
theorem WorldAt.setParty {i : Nat} {l : PL} {p' : MParty} (h : WorldAt c H L m) (hl : L.ps[i]? = some l) (A : PartyAt c H1 l p') (a : Mv l.fp H l.fp H1) : WorldAt c H1 L { m with parties := m.parties.set i p' } ∧ Mv L.fp H L.fp H1 := by
  obtain ⟨⟨dx, h1⟩, h2, h3, h4, h5, h6, h7, h8, h9, h10⟩ := id h
  obtain ⟨z1, z2⟩ := fp_mem hl
  have n : ∀ b, b ∈ L.own ∨ b ∈ L.sl.fp → b ∉ l.fp := fun b hb z => by
    have hz : b ∈ psFp L.ps := by
      simp only [PL.fp, List.mem_cons, List.not_mem_nil, or_false] at z
      rcases z with rfl | rfl
      · exact z1
      · exact z2
    rcases hb with hb | hb
    · exact (h10 b hz).1 hb
    · exact (h10 b hz).2 hb
  refine ⟨⟨⟨dx, a.get h1 (n _ (.inl ((WL.own_mem _ _).mpr (.inl rfl))))⟩, h2.mv a fun b hb => n b (.inr hb), a.get h3 (n _ (.inl ((WL.own_mem _ _).mpr (.inr (.inl rfl))))), h4.set h9 hl A a,
    a.rows h5 (n _ (.inl ((WL.own_mem _ _).mpr (.inr (.inr (.inl rfl)))))), a.rows h6 (n _ (.inl ((WL.own_mem _ _).mpr (.inr (.inr (.inr rfl)))))), h7, h8, h9, h10⟩, a.mono fun b hb => ?_⟩
  rw [WL.fp_mem]
  simp only [PL.fp, List.mem_cons, List.not_mem_nil, or_false] at hb
  rcases hb with rfl | rfl
  · exact .inr (.inr z1)
  · exact .inr (.inr z2)
theorem WorldAt.off {a : Addr} (h : WorldAt c H L m) (ha : a ∈ L.own) : (∀ b ∈ L.sl.fp, b ∉ [a]) ∧ (∀ b ∈ psFp L.ps, b ∉ [a]) := by
  refine ⟨fun b hb q => ?_, fun b hb q => ?_⟩
  · simp only [List.mem_cons, List.not_mem_nil, or_false] at q
    rw [q] at hb
    exact h.nds a hb ha
  · simp only [List.mem_cons, List.not_mem_nil, or_false] at q
    rw [q] at hb
    exact (h.ndq a hb).1 ha
/-- the list of messages has changed -/
theorem WorldAt.setNet {net : List M5} (h : WorldAt c H L m) (R : RowsAt H1 L.n (net.map M5.row)) (a : Mv [L.n] H [L.n] H1) : WorldAt c H1 L { m with net := net } ∧ Mv L.fp H L.fp H1 := by
  obtain ⟨n1, n2, n3, n4, n5, n6⟩ := h.nes
  obtain ⟨o1, o2⟩ := h.off ((WL.own_mem L.n L).mpr (.inr (.inr (.inl rfl))))
  obtain ⟨⟨dx, h1⟩, h2, h3, h4, h5, h6, h7, h8, h9, h10⟩ := id h
  exact ⟨⟨⟨dx, a.get h1 (by simpa using n2)⟩, h2.mv a o1, a.get h3 (by simpa using n4), h4.mv a o2, R, a.rows h6 (by simpa using n6.symm), h7, h8, h9, h10⟩, .in1 (by simp [WL.fp, WL.own]) a⟩
/-- the trace has changed -/
theorem WorldAt.setTr {tr : List M6} (h : WorldAt c H L m) (R : RowsAt H1 L.t (tr.map M6.row)) (a : Mv [L.t] H [L.t] H1) : WorldAt c H1 L { m with trace := tr } ∧ Mv L.fp H L.fp H1 := by
  obtain ⟨n1, n2, n3, n4, n5, n6⟩ := h.nes
  obtain ⟨o1, o2⟩ := h.off ((WL.own_mem L.t L).mpr (.inr (.inr (.inr rfl))))
  obtain ⟨⟨dx, h1⟩, h2, h3, h4, h5, h6, h7, h8, h9, h10⟩ := id h
  exact ⟨⟨⟨dx, a.get h1 (by simpa using n3)⟩, h2.mv a o1, a.get h3 (by simpa using n5), h4.mv a o2, a.rows h5 (by simpa using n6), R, h7, h8, h9, h10⟩, .in1 (by simp [WL.fp, WL.own]) a⟩
/-- a new list of messages -/
theorem WorldAt.newNet {n' dx : Addr} {net : List M5} (h : WorldAt c H L m) (hn : H n' = none) (R : RowsAt H1 n' (net.map M5.row)) (ho : H1 L.w = some (.ins c.wd dx (f_wd (.int m.reserve) (.ref L.sl.s) (.ref L.pl) (.ref n') (.ref L.t)))) (a : Mv [L.w] H [L.w, n'] H1) :
    WorldAt c H1 { L with n := n' } { m with net := net } ∧ Mv L.fp H ({ L with n := n' } : WL).fp H1 := by
  obtain ⟨n1, n2, n3, n4, n5, n6⟩ := h.nes
  obtain ⟨o1, o2⟩ := h.off ((WL.own_mem L.w L).mpr (.inl rfl))
  have nf := h.fresh hn
  rw [WL.fp_mem, WL.own_mem] at nf
  simp only [not_or] at nf
  obtain ⟨_, h2, h3, h4, h5, h6, h7, h8, h9, h10⟩ := id h
  refine ⟨⟨⟨dx, ho⟩, h2.mv a o1, a.get h3 (by simpa using n1.symm), h4.mv a o2, R, a.rows h6 (by simpa using n3.symm), ?_, fun b hb q => ?_, h9, fun b hb => ⟨fun q => ?_, (h10 b hb).2⟩⟩, a.sub (fun b hb => ?_) fun b hb => ?_⟩
  · simp [WL.own, n1, n3, n5, Ne.symm nf.1.1, Ne.symm nf.1.2.1, nf.1.2.2.2]
  · rw [WL.own_mem] at q
    rcases q with q | q | q | q
    · exact h8 b hb ((WL.own_mem _ _).mpr (.inl q))
    · exact h8 b hb ((WL.own_mem _ _).mpr (.inr (.inl q)))
    · exact nf.2.1 ((show b = n' from q) ▸ hb)
    · exact h8 b hb ((WL.own_mem _ _).mpr (.inr (.inr (.inr q))))
  · rw [WL.own_mem] at q
    rcases q with q | q | q | q
    · exact (h10 b hb).1 ((WL.own_mem _ _).mpr (.inl q))
    · exact (h10 b hb).1 ((WL.own_mem _ _).mpr (.inr (.inl q)))
    · exact nf.2.2 ((show b = n' from q) ▸ hb)
    · exact (h10 b hb).1 ((WL.own_mem _ _).mpr (.inr (.inr (.inr q))))
  · simp only [List.mem_cons, List.not_mem_nil, or_false] at hb
    rw [hb, WL.fp_mem, WL.own_mem]
    exact .inl (.inl rfl)
  · rw [WL.fp_mem, WL.own_mem] at hb
    rw [WL.fp_mem, WL.own_mem]
    rcases hb with (q | q | q | q) | q | q
    · exact .inr (.inl (.inl (.inl q)))
    · exact .inr (.inl (.inl (.inr (.inl q))))
    · exact .inl (by rw [q]; simp)
    · exact .inr (.inl (.inl (.inr (.inr (.inr q)))))
    · exact .inr (.inl (.inr (.inl q)))
    · exact .inr (.inl (.inr (.inr q)))
end
section
variable {P : Program} {w : World} {K : PySem.W.Frag} {mg : Str → Option Value} {base : Heap} {c : CA}
variable {σ : L2.St} {H : Hp} {L : WL} {m : MWorld} {ta tb : TE}
theorem v_wd_reserve (T : Txt K mg c) (A : WorldAt c H L m) (h : Val ta σ H (.ref L.w)) : Val (tFld K ta "reserve") σ H (.int m.reserve) := by
  obtain ⟨dx, ho⟩ := A.ob
  exact val_fld h ho T.c_wd T.a_wd_reserve f_wd_reserve
theorem v_wd_service (T : Txt K mg c) (A : WorldAt c H L m) (h : Val ta σ H (.ref L.w)) : Val (tFld K ta "service") σ H (.ref L.sl.s) := by
  obtain ⟨dx, ho⟩ := A.ob
  exact val_fld h ho T.c_wd T.a_wd_service f_wd_service
theorem v_wd_parties (T : Txt K mg c) (A : WorldAt c H L m) (h : Val ta σ H (.ref L.w)) : Val (tFld K ta "parties") σ H (.ref L.pl) := by
  obtain ⟨dx, ho⟩ := A.ob
  exact val_fld h ho T.c_wd T.a_wd_parties f_wd_parties
theorem v_wd_network (T : Txt K mg c) (A : WorldAt c H L m) (h : Val ta σ H (.ref L.w)) : Val (tFld K ta "network") σ H (.ref L.n) := by
  obtain ⟨dx, ho⟩ := A.ob
  exact val_fld h ho T.c_wd T.a_wd_network f_wd_network
theorem v_wd_trace (T : Txt K mg c) (A : WorldAt c H L m) (h : Val ta σ H (.ref L.w)) : Val (tFld K ta "trace") σ H (.ref L.t) := by
  obtain ⟨dx, ho⟩ := A.ob
  exact val_fld h ho T.c_wd T.a_wd_trace f_wd_trace
/-- world.parties[client - 1] -/
theorem WorldAt.party (A : WorldAt c H L m) {cl : Int} (h1 : 1 ≤ cl) (h2 : cl ≤ (m.parties.length : Int)) : ∃ l, L.ps[(cl - 1).toNat]? = some l ∧ PartyAt c H l (m.party cl) := by
  have hlt : (cl - 1).toNat < m.parties.length := by omega
  have e : m.parties[(cl - 1).toNat]? = some (m.party cl) := by
    unfold MWorld.party
    rw [List.getElem?_eq_getElem hlt]
    rfl
  exact A.ps.get e
theorem v_party {cl : Int} {l : PL} (T : Txt K mg c) (A : WorldAt c H L m) (h : Val ta σ H (.ref L.w)) (hc : Val tb σ H (.int cl)) (h1 : 1 ≤ cl) (hl : L.ps[(cl - 1).toNat]? = some l) :
    Val (tOp (rIxL K) (tFld K ta "parties") (tOp (rI0 fun i j => .int (i - j)) tb (tC (.int 1)))) σ H (.ref l.p) :=
  v_ixL (v_wd_parties T A h) (v_sub hc val_c) (SqL.of A.pl) (get_atI (k := (cl - 1).toNat) (by omega) (by rw [List.getElem?_map, hl]; rfl))
theorem v_nparties (T : Txt K mg c) (A : WorldAt c H L m) (h : Val ta σ H (.ref L.w)) : Val (tCB (fun xs H Q => ∃ p ys, xs = [.ref p] ∧ (SqL K H p ys ∨ SqT K H p ys) ∧ Q (.int ys.length) H) (tCons (tFld K ta "parties") tNil)) σ H (.int (m.parties.length : Int)) :=
  v_to (v_len (v_wd_parties T A h) (SqL.of A.pl)) (by rw [List.length_map, A.ps.len])
theorem v_nnet (T : Txt K mg c) (A : WorldAt c H L m) (h : Val ta σ H (.ref L.w)) : Val (tCB (fun xs H Q => ∃ p ys, xs = [.ref p] ∧ (SqL K H p ys ∨ SqT K H p ys) ∧ Q (.int ys.length) H) (tCons (tFld K ta "network") tNil)) σ H (.int (m.net.length : Int)) := by
  obtain ⟨as, h1, h2⟩ := A.net
  exact v_to (v_len (v_wd_network T A h) (SqL.of h1)) (by rw [List.length_map, h2.len, List.length_map])
end
end Tz
namespace Tz
open PySem PySem.Spec PyProof.Rows L2
/-! ### a world's methods -/
/-- an answer: a new list of ints -/
def Ints (H' : Hp) (r : Addr) (xs : List Int) : Prop := H' r = some (.lst (xs.map V.int))
def sp_World_init (K : PySem.W.Frag) (c : CA) : Sp := fun vs H Q _ => ∃ (p dx : Addr) (rv many : Int), vs = [.ref p, .int rv, .int many] ∧ H p = some (.ins c.wd dx []) ∧ many ≤ 1000 ∧ 0 ≤ many ∧
  ∀ H' L, WorldAt c H' L (.fresh rv many) → L.w = p → Mv [p] H L.fp H' → Q .non H'
def sp_World_send_request (K : PySem.W.Frag) (c : CA) : Sp := fun vs H Q _ => ∃ (L : WL) (m : MWorld) (cl : Int), vs = [.ref L.w, .int cl] ∧ WorldAt c H L m ∧ 1 ≤ cl ∧ cl ≤ (m.parties.length : Int) ∧ m.net.length < 1000000 ∧
  ∀ H' r, WorldAt c H' L (m.sendRequest cl) → Mv L.fp H L.fp H' → H r = none → Ints H' r (m.sendAns cl) → Q (.ref r) H'
def sp_World_make_request (K : PySem.W.Frag) (c : CA) : Sp := fun vs H Q _ => ∃ (L : WL) (m : MWorld) (cl : Int), vs = [.ref L.w, .int cl] ∧ WorldAt c H L m ∧ 1 ≤ cl ∧ cl ≤ (m.parties.length : Int) ∧ m.net.length < 1000000 ∧ m.trace.length < 1000000 ∧
  ∀ H' r, WorldAt c H' L (m.makeRequest cl) → Mv L.fp H L.fp H' → H r = none → Ints H' r (m.makeAns cl) → Q (.ref r) H'
def sp_World_take (K : PySem.W.Frag) (c : CA) : Sp := fun vs H Q _ => ∃ (L : WL) (m : MWorld) (i : Nat) (e : M5), vs = [.ref L.w, .int (i : Int)] ∧ WorldAt c H L m ∧ m.net[i]? = some e ∧ m.net.length < 1000000 ∧
  ∀ H' t, WorldAt c H' L (m.took i) → Mv L.fp H L.fp H' → H' t = some (.tup (e.row.map V.int)) → Q (.ref t) H'
def sp_World_arrive_request (K : PySem.W.Frag) (c : CA) : Sp := fun vs H Q _ => ∃ (L : WL) (m : MWorld) (t : Addr) (e : M5), vs = [.ref L.w, .ref t] ∧ WorldAt c H L m ∧ H t = some (.tup (e.row.map V.int)) ∧ Fit m ∧
  ∀ H' r, WorldAt c H' L (m.arriveRequest e) → Mv L.fp H L.fp H' → H r = none → Ints H' r m.arriveRequestAns → Q (.ref r) H'
def sp_World_arrive_reply (K : PySem.W.Frag) (c : CA) : Sp := fun vs H Q _ => ∃ (L : WL) (m : MWorld) (t : Addr) (e : M5), vs = [.ref L.w, .ref t] ∧ WorldAt c H L m ∧ H t = some (.tup (e.row.map V.int)) ∧ Fit m ∧ inR m.parties.length e ∧
  ∀ H' r, WorldAt c H' L (m.arriveReply e) → Mv L.fp H L.fp H' → H r = none → Ints H' r (m.arriveReplyAns e) → Q (.ref r) H'
def sp_World_arrive (K : PySem.W.Frag) (c : CA) : Sp := fun vs H Q _ => ∃ (L : WL) (m : MWorld) (t : Addr) (e : M5), vs = [.ref L.w, .ref t] ∧ WorldAt c H L m ∧ H t = some (.tup (e.row.map V.int)) ∧ Fit m ∧ inR m.parties.length e ∧
  ∀ H' r, WorldAt c H' L (m.arrive e) → Mv L.fp H L.fp H' → H r = none → Ints H' r (m.arriveAns e) → Q (.ref r) H'
def sp_World_force (K : PySem.W.Frag) (c : CA) : Sp := fun vs H Q _ => ∃ (L : WL) (m : MWorld), vs = [.ref L.w] ∧ WorldAt c H L m ∧ Fit m ∧
  ∀ H' L', WorldAt c H' L' m.force → L'.w = L.w → Mv L.fp H L'.fp H' → Q (.int (m.srv.outbox.length : Int)) H'
def sp_World_crash_service (K : PySem.W.Frag) (c : CA) : Sp := fun vs H Q _ => ∃ (L : WL) (m : MWorld) (kept : Int), vs = [.ref L.w, .int kept] ∧ WorldAt c H L m ∧ Fit m ∧
  ∀ H' L', WorldAt c H' L' (m.crashService kept) → L'.w = L.w → Mv L.fp H L'.fp H' → Q (.int (m.srv.disk.crash kept).current) H'
def sp_World_restart_service (K : PySem.W.Frag) (c : CA) : Sp := fun vs H Q _ => ∃ (L : WL) (m : MWorld), vs = [.ref L.w] ∧ WorldAt c H L m ∧ Fit m ∧
  ∀ H' L', WorldAt c H' L' m.restartService → L'.w = L.w → Mv L.fp H L'.fp H' → Q (.int m.srv.disk.current) H'
def sp_World_calm_round (K : PySem.W.Frag) (c : CA) : Sp := fun vs H Q _ => ∃ (L : WL) (m : MWorld) (N : Nat), vs = [.ref L.w] ∧ WorldAt c H L m ∧ Good N m ∧ N < 400000 ∧
  ∀ H' L', WorldAt c H' L' m.calmRound → L'.w = L.w → Mv L.fp H L'.fp H' → Q .non H'
def sp_World_twin (K : PySem.W.Frag) (c : CA) : Sp := fun vs H Q _ => ∃ (L : WL) (m : MWorld), vs = [.ref L.w] ∧ WorldAt c H L m ∧ m.parties.length ≤ 1000 ∧
  ∀ H' L', WorldAt c H' L' m → (∀ b ∈ L'.fp, H b = none) → Same H H' → Q (.ref L'.w) H'
/-! clients made one by one -/
structure Built (c : CA) (H2 : Hp) (D : Addr) (ps : List PL) (ms : List MParty) (H' : Hp) : Prop where
  lst : H' D = some (.lst (ps.map fun p => V.ref p.p))
  pt : PartiesAt c H' ps ms
  nd : (psFp ps).Nodup
  mv : Mv [] H2 (D :: psFp ps) H'
  nD : D ∉ psFp ps
theorem psFp_app (ps : List PL) (l : PL) : psFp (ps ++ [l]) = psFp ps ++ [l.p, l.r] := by
  simp [psFp, PL.fp]
theorem Built.start {c : CA} {H2 : Hp} {D : Addr} (h : H2 D = none) : Built c H2 D [] [] (upd H2 D (.lst [])) :=
  ⟨by rw [upd_same]; rfl, .nil, by simp [psFp], (Mv.refl [] H2).lay h, by simp [psFp]⟩
theorem PartiesAt.app {c : CA} {H : Hp} : ∀ {ps : List PL} {ms : List MParty} {l : PL} {m : MParty}, PartiesAt c H ps ms → PartyAt c H l m → PartiesAt c H (ps ++ [l]) (ms ++ [m])
  | _, _, _, _, .nil, h => .cons h .nil
  | _, _, _, _, .cons a t, h => .cons a (PartiesAt.app t h)
theorem Built.more {c : CA} {H2 H1 H' : Hp} {D : Addr} {ps : List PL} {ms : List MParty} {l : PL} {m : MParty} (B : Built c H2 D ps ms H1) (s : Same H1 H') (A : PartyAt c H' l m) (h1 : H1 l.p = none) (h2 : H1 l.r = none) :
    Built c H2 D (ps ++ [l]) (ms ++ [m]) (upd H' D (.lst ((ps.map fun p => V.ref p.p) ++ [.ref l.p]))) := by
  have hD := s _ _ B.lst
  have e1 : l.p ≠ D := (ne_of_none B.lst h1).symm
  have e2 : l.r ≠ D := (ne_of_none B.lst h2).symm
  have f1 : l.p ∉ psFp ps := fun q => by
    obtain ⟨o, z⟩ := B.pt.live _ q
    rw [h1] at z
    cases z
  have f2 : l.r ∉ psFp ps := fun q => by
    obtain ⟨o, z⟩ := B.pt.live _ q
    rw [h2] at z
    cases z
  have mv : Mv [D] H' [D] (upd H' D (.lst ((ps.map fun p => V.ref p.p) ++ [.ref l.p]))) := .updL (by simp) hD
  refine ⟨?_, ?_, ?_, ?_, ?_⟩
  · rw [upd_same, List.map_append]
    rfl
  · refine (PartiesAt.app ?_ ?_ : PartiesAt c _ (ps ++ [l]) (ms ++ [m]))
    · exact (B.pt.mv (Mv.of_same (S := []) s) (by simp)).mv mv fun b hb q => by
        simp only [List.mem_cons, List.not_mem_nil, or_false] at q
        exact B.nD (q ▸ hb)
    · exact A.mv mv (by simpa using e1) (by simpa using e2)
  · rw [psFp_app, List.nodup_append]
    refine ⟨B.nd, by simp [A.ne.symm], fun a ha b hb q => ?_⟩
    simp only [List.mem_cons, List.not_mem_nil, or_false] at hb
    rcases hb with rfl | rfl
    · exact f1 (q ▸ ha)
    · exact f2 (q ▸ ha)
  · refine (B.mv.grow (S2 := D :: psFp (ps ++ [l])) s fun b hb => ?_).trans (.in1 (by simp) mv)
    rw [psFp_app] at hb
    simp only [List.mem_cons, List.mem_append, List.not_mem_nil, or_false] at hb ⊢
    rcases hb with hb | hb | rfl | rfl
    · exact .inl (.inl hb)
    · exact .inl (.inr hb)
    · exact .inr h1
    · exact .inr h2
  · rw [psFp_app]
    simp only [List.mem_append, List.mem_cons, List.not_mem_nil, or_false, not_or]
    exact ⟨B.nD, e1.symm, e2.symm⟩
section
variable {P : Program} {w : World} {K : PySem.W.Frag} {mg : Str → Option Value} {base : Heap} {c : CA}
theorem ok_World_send_request {f : Addr} {fd : FuncData} (F : Fun K "send_request" "World.send_request" s_World_send_request f fd) (T : Txt K mg c) : FnOk P w K mg base CX0 1 f fd ["self", "client"] (sp_World_send_request K c) := by
  refine F.ok sc_World_send_request (fun vs H Q E h => ?_) (fun cdv A outer s H vs Q E hr h => ?_)
  · obtain ⟨L, m, cl, rfl, A, h1, h2, hz, k⟩ := h
    rfl
  obtain ⟨L, m, cl, rfl, A, h1, h2, hz, k⟩ := h
  refine ⟨_, (pss_cons (ps_set (i := 2) sc_World_send_request.nd rfl (Or.inl rfl) (pe_ix ix_list (pe_fld (pv 0) rfl) (pe_op op_sub (pv 1) pe_int) (fun _ _ => rfl)))
      (pss_cons (ps_expr (pe_bm PySem.F.plainAttrs_list PySem.F.slot_list_append PySem.F.type_list_append mt_append (pe_fld (pv 0) rfl) (pa_cons (pe_tup (pa_cons (pe_gc T.g_REQUEST_simulation) (pa_cons (pv 1) (pa_cons (pe_fld (pv 2) rfl) (pa_cons (pe_fld (pv 2) rfl) (pa_cons pe_int pa_nil)))))) pa_nil)))
      (pss_one (ps_ret (pe_lst (pa_cons (pe_fld (pv 2) rfl) (pa_cons (pe_fld (pv 2) rfl) pa_nil))))))), ?_⟩
  obtain ⟨l, hl, B⟩ := A.party h1 h2
  refine q_set (v_party T A (val_var rfl) (val_var rfl) h1 hl) ?_
  refine q_push (row := (M5.mk 0 cl (m.party cl).boot (m.party cl).nonce 0).row) (v_wd_network T A (val_var rfl)) A.net (av_cons val_c (av_cons (val_var rfl) (av_cons (v_py_boot T B (val_var rfl)) (av_cons (v_py_nonce T B (val_var rfl)) (av_cons val_c av_nil))))) (by rw [List.length_map]; exact hz) fun H1 R mv => ?_
  obtain ⟨A1, mv1⟩ := A.setNet (net := m.net ++ [M5.mk 0 cl (m.party cl).boot (m.party cl).nonce 0]) (by rw [List.map_append]; exact R) mv
  obtain ⟨l', hl', B1⟩ := A1.party (cl := cl) h1 h2
  rw [hl] at hl'
  obtain rfl := Option.some.inj hl'
  refine s_retL (av_cons (v_py_boot T B1 (val_var rfl)) (av_cons (v_py_nonce T B1 (val_var rfl)) av_nil)) fun r hr => ?_
  exact k _ r (A1.same (same_new hr)) (mv1.aside hr) (mv1.back hr) upd_same
theorem ok_World_make_request {f : Addr} {fd : FuncData} (F : Fun K "make_request" "World.make_request" s_World_make_request f fd) (T : Txt K mg c) (D_World_send_request : MethOk P w K mg base c.wd "send_request" 1 ["self", "client"] (sp_World_send_request K c)) (D_Party_ask : MethOk P w K mg base c.py "ask" 1 ["self"] (sp_Party_ask K c)) : FnOk P w K mg base CX0 2 f fd ["self", "client"] (sp_World_make_request K c) := by
  refine F.ok sc_World_make_request (fun vs H Q E h => ?_) (fun cdv A outer s H vs Q E hr h => ?_)
  · obtain ⟨L, m, cl, rfl, A, h1, h2, hz, hz2, k⟩ := h
    rfl
  obtain ⟨L, m, cl, rfl, A, h1, h2, hz, hz2, k⟩ := h
  refine ⟨_, (pss_cons (ps_set (i := 2) sc_World_make_request.nd rfl (Or.inl rfl) (pe_ix ix_list (pe_fld (pv 0) rfl) (pe_op op_sub (pv 1) pe_int) (fun _ _ => rfl)))
      (pss_cons (ps_expr (pe_methD0 (pv 2) T.c_py D_Party_ask (hr.mono (by decide))))
      (pss_cons (ps_expr (pe_bm PySem.F.plainAttrs_list PySem.F.slot_list_append PySem.F.type_list_append mt_append (pe_fld (pv 0) rfl) (pa_cons (pe_tup (pa_cons (pe_gc T.g_REQUESTED_simulation) (pa_cons pe_int (pa_cons (pv 1) (pa_cons (pe_fld (pv 2) rfl) (pa_cons (pe_fld (pv 2) rfl) (pa_cons pe_int pa_nil))))))) pa_nil)))
      (pss_one (ps_ret (pe_methD (pv 0) T.c_wd D_World_send_request (hr.mono (by decide)) (pa_cons (pv 1) pa_nil))))))), ?_⟩
  obtain ⟨l, hl, B⟩ := A.party h1 h2
  refine q_set (v_party T A (val_var rfl) (val_var rfl) h1 hl) ?_
  obtain ⟨dp, hp⟩ := B.ob
  refine q_xdrop (x_meth0 (val_var rfl) hp m_py_ask ?_)
  refine ⟨l, m.party cl, rfl, B, fun H1 B1 mv => ?_⟩
  obtain ⟨A1, mv1⟩ := A.setParty hl B1 mv
  refine q_push (row := (M6.mk 0 0 cl (m.party cl).ask.boot (m.party cl).ask.nonce 0).row) (v_wd_trace T A1 (val_var rfl)) A1.tr (av_cons val_c (av_cons val_c (av_cons (val_var rfl) (av_cons (v_py_boot T B1 (val_var rfl)) (av_cons (v_py_nonce T B1 (val_var rfl)) (av_cons val_c av_nil)))))) (by rw [List.length_map]; exact hz2) fun H2 R mv2 => ?_
  obtain ⟨A2, mv3⟩ := A1.setTr (tr := m.trace ++ [M6.mk 0 0 cl (m.party cl).ask.boot (m.party cl).ask.nonce 0]) (by rw [List.map_append]; exact R) mv2
  have A3 : WorldAt c H2 L (m.asked cl) := A2
  obtain ⟨dw, hw⟩ := A3.ob
  refine x_ret (x_meth (val_var rfl) hw m_wd_send_request (av_cons (val_var rfl) av_nil) ?_)
  refine ⟨L, m.asked cl, cl, rfl, A3, h1, ?_, hz, fun H3 r A4 mv4 hr hi => ?_⟩
  · show cl ≤ ((m.parties.set (cl - 1).toNat (m.party cl).ask).length : Int)
    rw [List.length_set]
    exact h2
  · exact k H3 r A4 ((mv1.trans mv3).trans mv4) ((mv1.trans mv3).back hr) hi
theorem ok_World_take {f : Addr} {fd : FuncData} (F : Fun K "take" "World.take" s_World_take f fd) (T : Txt K mg c) : FnOk P w K mg base CX0 1 f fd ["self", "index"] (sp_World_take K c) := by
  refine F.ok sc_World_take (fun vs H Q E h => ?_) (fun cdv A outer s H vs Q E hr h => ?_)
  · obtain ⟨L, m, i, e, rfl, A, he, hz, k⟩ := h
    rfl
  obtain ⟨L, m, i, e, rfl, A, he, hz, k⟩ := h
  refine ⟨_, (pss_one (ps_ret (pe_bm PySem.F.plainAttrs_list PySem.F.slot_list_pop PySem.F.type_list_pop mt_popAt (pe_fld (pv 0) rfl) (pa_cons (pv 1) pa_nil)))), ?_⟩
  obtain ⟨as, h1, h2⟩ := id A.net
  obtain ⟨t, ht, hto⟩ := h2.get (i := i) (r := e.row) (by rw [List.getElem?_map, he]; rfl)
  have hi : i < m.net.length := (List.getElem?_eq_some_iff.mp he).1
  have hil : i < as.length := (List.getElem?_eq_some_iff.mp ht).1
  refine x_ret ?_
  refine v_wd_network T A (val_var rfl) _ ⟨.inl ⟨rfl, _, SqL.of h1⟩, ?_⟩
  refine val_var rfl _ ?_
  have nt : t ≠ L.n := by
    intro q
    rw [q, h1] at hto
    cases hto
  refine ⟨L.n, as.map V.ref, (i : Int), i, .ref t, rfl, rfl, h1, by omega, by omega, ?_, by rw [List.getElem?_map, ht]; rfl, ?_⟩
  · exact (by rw [PySem.seqIndex_of (Int.natCast_nonneg i) (by rw [List.length_map]; omega)]; rfl)
  · have mv : Mv [L.n] H [L.n] (upd H L.n (.lst ((as.map V.ref).eraseIdx i))) := .updL (by simp) h1
    obtain ⟨A1, mv1⟩ := A.setNet (net := m.net.eraseIdx i) ⟨as.eraseIdx i, by rw [upd_same, map_erase], by rw [← map_erase]; exact mv.tups (h2.erase i)⟩ mv
    exact k _ t A1 mv1 (mv.tup hto)
theorem ok_World_arrive_request {f : Addr} {fd : FuncData} (F : Fun K "arrive_request" "World.arrive_request" s_World_arrive_request f fd) (T : Txt K mg c) (D_Service_serve : MethOk P w K mg base c.sv "serve" 3 ["self", "message", "reserve"] (sp_Service_serve K c)) : FnOk P w K mg base CX0 4 f fd ["self", "message"] (sp_World_arrive_request K c) := by
  refine F.ok sc_World_arrive_request (fun vs H Q E h => ?_) (fun cdv A outer s H vs Q E hr h => ?_)
  · obtain ⟨L, m, t, e, rfl, A, ht, hf, k⟩ := h
    rfl
  obtain ⟨L, m, t, e, rfl, A, ht, hf, k⟩ := h
  refine ⟨_, (pss_cons (ps_if (pt_not (pt_val (pe_fld (pe_fld (pv 0) rfl) rfl))) (pss_one (ps_ret (pe_lst (pa_cons pe_int (pa_cons pe_int pa_nil))))) pss_nil)
      (pss_cons (ps_set (i := 2) sc_World_arrive_request.nd rfl (Or.inl rfl) (pe_fld (pe_fld (pv 0) rfl) rfl))
      (pss_cons (ps_expr (pe_bm PySem.F.plainAttrs_list PySem.F.slot_list_extend PySem.F.type_list_extend mt_extend (pe_fld (pv 0) rfl) (pa_cons (pe_methD (pe_fld (pv 0) rfl) T.c_sv D_Service_serve (hr.mono (by decide)) (pa_cons (pv 1) (pa_cons (pe_fld (pv 0) rfl) pa_nil))) pa_nil)))
      (pss_one (ps_ret (pe_lst (pa_cons pe_int (pa_cons (pv 2) pa_nil)))))))), ?_⟩
  refine q_ifn (a_not (a_B (v_sv_up T A.sv (v_wd_service T A (val_var rfl))))) (fun h => ?_) (fun h => ?_)
  · have hu : m.srv.up = false := by simpa using h
    refine s_retL (av_cons val_c (av_cons val_c av_nil)) fun r hr => ?_
    have e1 : m.arriveRequest e = m := if_neg (by rw [hu]; decide)
    have e2 : m.arriveRequestAns = [0, 0] := if_neg (by rw [hu]; decide)
    refine k _ r ?_ (.side hr) hr ?_
    · rw [e1]
      exact A.same (same_new hr)
    · rw [e2]
      exact upd_same
  · have hu : m.srv.up = true := by simpa using h
    have e1 : m.arriveRequest e = { m with srv := m.srv.serve e m.reserve, trace := m.trace ++ m.srv.serveRows e m.reserve } := if_pos hu
    have e2 : m.arriveRequestAns = [1, m.srv.next] := if_pos hu
    refine q_set (v_sv_next T A.sv (v_wd_service T A (val_var rfl))) ?_
    obtain ⟨ts, htr, htt⟩ := id A.tr
    obtain ⟨ds, hs⟩ := A.sv.ob
    refine q_xdrop (x_bm (v_wd_trace T A (val_var rfl)) htr (x_cons1 ?_))
    refine x_meth (v_wd_service T A (val_var rfl)) hs m_sv_serve (av_cons (val_var rfl) (av_cons (v_wd_reserve T A (val_var rfl)) av_nil)) ?_
    refine ⟨L.sl, m.srv, m.reserve, t, e, rfl, A.sv, ht, Nat.lt_trans hf.unf (by decide), Nat.lt_trans hf.out (by decide), fun H1 r B R hr mv => ?_⟩
    obtain ⟨A1, mv1⟩ := A.setSrv B rfl mv
    refine r_extend A1.tr R ?_ fun H2 R2 mv2 => ?_
    · have := hf.tr
      rw [List.length_map, List.length_map]
      have : (m.srv.serveRows e m.reserve).length ≤ 2 := by
        unfold MSrv.serveRows MSrv.wroteRows
        split <;> simp
      show m.trace.length + _ < _
      omega
    · obtain ⟨A2, mv3⟩ := A1.setTr (tr := m.trace ++ m.srv.serveRows e m.reserve) (by rw [List.map_append]; exact R2) mv2
      refine s_retL (av_cons val_c (av_cons (val_var rfl) av_nil)) fun q hq => ?_
      refine k _ q ?_ ((mv1.trans mv3).aside hq) ((mv1.trans mv3).back hq) ?_
      · rw [e1]
        exact A2.same (same_new hq)
      · rw [e2]
        exact upd_same
theorem ok_World_arrive_reply {f : Addr} {fd : FuncData} (F : Fun K "arrive_reply" "World.arrive_reply" s_World_arrive_reply f fd) (T : Txt K mg c) (D_Party_receive : MethOk P w K mg base c.py "receive" 1 ["self", "stamp"] (sp_Party_receive K c)) (D_Party_accepts : MethOk P w K mg base c.py "accepts" 1 ["self", "boot", "nonce"] (sp_Party_accepts K c)) : FnOk P w K mg base CX0 2 f fd ["self", "message"] (sp_World_arrive_reply K c) := by
  refine F.ok sc_World_arrive_reply (fun vs H Q E h => ?_) (fun cdv A outer s H vs Q E hr h => ?_)
  · obtain ⟨L, m, t, e, rfl, A, ht, hf, hr0, k⟩ := h
    rfl
  obtain ⟨L, m, t, e, rfl, A, ht, hf, hr0, k⟩ := h
  refine ⟨_, (pss_cons (ps_set (i := 2) sc_World_arrive_reply.nd rfl (Or.inl rfl) (pe_ix ix_tup (pv 1) pe_int (fun _ _ => rfl)))
      (pss_cons (ps_set (i := 3) sc_World_arrive_reply.nd rfl (Or.inl rfl) (pe_ix ix_tup (pv 1) pe_int (fun _ _ => rfl)))
      (pss_cons (ps_set (i := 4) sc_World_arrive_reply.nd rfl (Or.inl rfl) (pe_ix ix_tup (pv 1) pe_int (fun _ _ => rfl)))
      (pss_cons (ps_set (i := 5) sc_World_arrive_reply.nd rfl (Or.inl rfl) (pe_ix ix_tup (pv 1) pe_int (fun _ _ => rfl)))
      (pss_cons (ps_set (i := 6) sc_World_arrive_reply.nd rfl (Or.inl rfl) (pe_ix ix_list (pe_fld (pv 0) rfl) (pe_op op_sub (pv 2) pe_int) (fun _ _ => rfl)))
      (pss_cons (ps_if (pt_not (pt_val (pe_methD (pv 6) T.c_py D_Party_accepts (hr.mono (by decide)) (pa_cons (pv 3) (pa_cons (pv 4) pa_nil))))) (pss_one (ps_ret (pe_lst (pa_cons pe_int (pa_cons pe_int pa_nil))))) pss_nil)
      (pss_cons (ps_expr (pe_methD (pv 6) T.c_py D_Party_receive (hr.mono (by decide)) (pa_cons (pv 5) pa_nil)))
      (pss_cons (ps_expr (pe_bm PySem.F.plainAttrs_list PySem.F.slot_list_append PySem.F.type_list_append mt_append (pe_fld (pv 0) rfl) (pa_cons (pe_tup (pa_cons (pe_gc T.g_RECEIVED_simulation) (pa_cons pe_int (pa_cons (pv 2) (pa_cons (pv 3) (pa_cons (pv 4) (pa_cons (pv 5) pa_nil))))))) pa_nil)))
      (pss_one (ps_ret (pe_lst (pa_cons pe_int (pa_cons (pv 5) pa_nil))))))))))))), ?_⟩
  refine q_set (v_ixT (val_var rfl) val_c (SqT.of ht) (get_atI (v := .int e.c) (k := 1) rfl rfl)) ?_
  refine q_set (v_ixT (val_var rfl) val_c (SqT.of ht) (get_atI (v := .int e.b) (k := 2) rfl rfl)) ?_
  refine q_set (v_ixT (val_var rfl) val_c (SqT.of ht) (get_atI (v := .int e.n) (k := 3) rfl rfl)) ?_
  refine q_set (v_ixT (val_var rfl) val_c (SqT.of ht) (get_atI (v := .int e.s) (k := 4) rfl rfl)) ?_
  obtain ⟨l, hl, B⟩ := A.party hr0.1 hr0.2
  refine q_set (v_party T A (val_var rfl) (val_var rfl) hr0.1 hl) ?_
  obtain ⟨dp, hp⟩ := B.ob
  refine q_ifn (a_not (a_B (v_meth (val_var rfl) hp m_py_accepts (av_cons (val_var rfl) (av_cons (val_var rfl) av_nil)) fun Q q => ⟨l, m.party e.c, e.b, e.n, rfl, B, q⟩))) (fun h => ?_) (fun h => ?_)
  · have hu : (m.party e.c).accepts e.b e.n = false := by simpa using h
    refine s_retL (av_cons val_c (av_cons val_c av_nil)) fun r hr => ?_
    have e1 : m.arriveReply e = m := if_neg (by rw [hu]; decide)
    have e2 : m.arriveReplyAns e = [0, 0] := if_neg (by rw [hu]; decide)
    refine k _ r ?_ (.side hr) hr ?_
    · rw [e1]
      exact A.same (same_new hr)
    · rw [e2]
      exact upd_same
  · have hu : (m.party e.c).accepts e.b e.n = true := by simpa using h
    have e1 : m.arriveReply e = { m with parties := m.parties.set (e.c - 1).toNat ((m.party e.c).receive e.s), trace := m.trace ++ [⟨4, 0, e.c, e.b, e.n, e.s⟩] } := if_pos hu
    have e2 : m.arriveReplyAns e = [2, e.s] := if_pos hu
    refine q_xdrop (x_meth (val_var rfl) hp m_py_receive (av_cons (val_var rfl) av_nil) ?_)
    refine ⟨l, m.party e.c, e.s, rfl, B, ?_, fun H1 B1 mv => ?_⟩
    · have hlt : (e.c - 1).toNat < m.parties.length := by
        have := hr0.1
        have := hr0.2
        omega
      refine Nat.lt_trans (hf.rcv (m.party e.c) ?_) (by decide)
      unfold MWorld.party
      rw [List.getElem?_eq_getElem hlt]
      exact List.getElem_mem hlt
    · obtain ⟨A1, mv1⟩ := A.setParty hl B1 mv
      refine q_push (row := (M6.mk 4 0 e.c e.b e.n e.s).row) (v_wd_trace T A1 (val_var rfl)) A1.tr (av_cons val_c (av_cons val_c (av_cons (val_var rfl) (av_cons (val_var rfl) (av_cons (val_var rfl) (av_cons (val_var rfl) av_nil)))))) (by rw [List.length_map]; exact Nat.lt_trans hf.tr (by decide)) fun H2 R mv2 => ?_
      obtain ⟨A2, mv3⟩ := A1.setTr (tr := m.trace ++ [⟨4, 0, e.c, e.b, e.n, e.s⟩]) (by rw [List.map_append]; exact R) mv2
      refine s_retL (av_cons val_c (av_cons (val_var rfl) av_nil)) fun q hq => ?_
      refine k _ q ?_ ((mv1.trans mv3).aside hq) ((mv1.trans mv3).back hq) ?_
      · rw [e1]
        exact A2.same (same_new hq)
      · rw [e2]
        exact upd_same
theorem ok_World_arrive {f : Addr} {fd : FuncData} (F : Fun K "arrive" "World.arrive" s_World_arrive f fd) (T : Txt K mg c) (D_World_arrive_reply : MethOk P w K mg base c.wd "arrive_reply" 2 ["self", "message"] (sp_World_arrive_reply K c)) (D_World_arrive_request : MethOk P w K mg base c.wd "arrive_request" 4 ["self", "message"] (sp_World_arrive_request K c)) : FnOk P w K mg base CX0 5 f fd ["self", "message"] (sp_World_arrive K c) := by
  refine F.ok sc_World_arrive (fun vs H Q E h => ?_) (fun cdv A outer s H vs Q E hr h => ?_)
  · obtain ⟨L, m, t, e, rfl, A, ht, hf, hr0, k⟩ := h
    rfl
  obtain ⟨L, m, t, e, rfl, A, ht, hf, hr0, k⟩ := h
  refine ⟨_, (pss_cons (ps_if (pt_cmpR op_eq (pe_ix ix_tup (pv 1) pe_int (fun _ _ => rfl)) (pe_gc T.g_REQUEST_simulation) (nomark _)) (pss_one (ps_ret (pe_methD (pv 0) T.c_wd D_World_arrive_request (hr.mono (by decide)) (pa_cons (pv 1) pa_nil)))) pss_nil)
      (pss_one (ps_ret (pe_methD (pv 0) T.c_wd D_World_arrive_reply (hr.mono (by decide)) (pa_cons (pv 1) pa_nil))))), ?_⟩
  obtain ⟨dw, hw⟩ := A.ob
  refine q_ifn (a_val (v_eq (v_ixT (val_var rfl) val_c (SqT.of ht) (get_atI (v := .int e.k) (k := 0) rfl rfl)) val_c)) (fun h => ?_) (fun h => ?_)
  · have hk : e.k = 0 := of_decide_eq_true h
    have e1 : m.arrive e = m.arriveRequest e := if_pos hk
    have e2 : m.arriveAns e = m.arriveRequestAns := if_pos hk
    refine x_ret (x_meth (val_var rfl) hw m_wd_arrive_request (av_cons (val_var rfl) av_nil) ?_)
    refine ⟨L, m, t, e, rfl, A, ht, hf, fun H1 r A1 mv hr hi => k H1 r ?_ mv hr ?_⟩
    · rw [e1]
      exact A1
    · rw [e2]
      exact hi
  · have hk : ¬ e.k = 0 := of_decide_eq_false h
    have e1 : m.arrive e = m.arriveReply e := if_neg hk
    have e2 : m.arriveAns e = m.arriveReplyAns e := if_neg hk
    refine x_ret (x_meth (val_var rfl) hw m_wd_arrive_reply (av_cons (val_var rfl) av_nil) ?_)
    refine ⟨L, m, t, e, rfl, A, ht, hf, hr0, fun H1 r A1 mv hr hi => k H1 r ?_ mv hr ?_⟩
    · rw [e1]
      exact A1
    · rw [e2]
      exact hi
end
end Tz
namespace Tz
open PySem PySem.Spec PyProof.Rows L2
section
variable {P : Program} {w : World} {K : PySem.W.Frag} {mg : Str → Option Value} {base : Heap} {c : CA}
theorem ok_World_force {f : Addr} {fd : FuncData} (F : Fun K "force" "World.force" s_World_force f fd) (T : Txt K mg c) (D_Service_force : MethOk P w K mg base c.sv "force" 3 ["self"] (sp_Service_force K c)) : FnOk P w K mg base CX0 4 f fd ["self"] (sp_World_force K c) := by
  refine F.ok sc_World_force (fun vs H Q E h => ?_) (fun cdv A outer s H vs Q E hr h => ?_)
  · obtain ⟨L, m, rfl, A, hf, k⟩ := h
    rfl
  obtain ⟨L, m, rfl, A, hf, k⟩ := h
  refine ⟨_, (pss_cons (ps_set (i := 1) sc_World_force.nd rfl (Or.inl rfl) (pe_callTy call_list_of (by rfl) T.z_list (by decide +kernel) (pa_cons (pe_fld (pe_fld (pv 0) rfl) rfl) pa_nil)))
      (pss_cons (ps_expr (pe_bm PySem.F.plainAttrs_list PySem.F.slot_list_extend PySem.F.type_list_extend mt_extend (pe_fld (pv 0) rfl) (pa_cons (pe_methD0 (pe_fld (pv 0) rfl) T.c_sv D_Service_force (hr.mono (by decide))) pa_nil)))
      (pss_cons (ps_expr (pe_bm PySem.F.plainAttrs_list PySem.F.slot_list_extend PySem.F.type_list_extend mt_extend (pe_fld (pv 0) rfl) (pa_cons (pv 1) pa_nil)))
      (pss_one (ps_ret (pe_callB call_len_seq (by rfl) T.z_len PySem.boot_len (pa_cons (pv 1) pa_nil))))))), ?_⟩
  obtain ⟨os, ho, hot⟩ := id A.sv.out
  refine q_xset (x_cb (av_cons (v_sv_outbox T A.sv (v_wd_service T A (val_var rfl))) av_nil) ?_)
  refine ⟨L.sl.o, os.map V.ref, rfl, .inl (SqL.of ho), fun q hq => ?_⟩
  have A0 := A.same (same_new (o := .lst (os.map V.ref)) hq)
  have Rq : RowsAt (upd H q (.lst (os.map V.ref))) q (m.srv.outbox.map M5.row) := ⟨os, upd_same, Tz.Same.tups (same_new hq) hot⟩
  have mv0 : Mv L.fp H L.fp (upd H q (.lst (os.map V.ref))) := .side hq
  have nq : q ∉ L.fp := A.fresh hq
  generalize upd H q (.lst (os.map V.ref)) = H0 at *
  obtain ⟨ts, htr, htt⟩ := id A0.tr
  obtain ⟨ds, hs⟩ := A0.sv.ob
  refine q_xdrop (x_bm (v_wd_trace T A0 (val_var rfl)) htr (x_cons1 ?_))
  refine x_meth0 (v_wd_service T A0 (val_var rfl)) hs m_sv_force ?_
  refine ⟨L.sl, m.srv, rfl, A0.sv, Nat.lt_trans hf.out (by decide), fun H1 sl' r B hsl R hr hrf mv => ?_⟩
  obtain ⟨A1, mv1⟩ := A0.setSrv B hsl mv
  have Rq1 := mv.rows Rq (fun z => nq ((WL.fp_mem q L).mpr (.inr (.inl z))))
  refine r_extend A1.tr R ?_ fun H2 R2 mv2 => ?_
  · have h1 := hf.tr
    have h2 := hf.out
    rw [List.length_map, List.length_map]
    unfold MSrv.forceRows
    rw [List.length_map]
    show m.trace.length + m.srv.outbox.length < _
    omega
  · obtain ⟨A2, mv3⟩ := A1.setTr (tr := m.trace ++ m.srv.forceRows) (by rw [List.map_append]; exact R2) mv2
    have Rq2 := mv2.rows Rq1 (by
      simp only [List.mem_cons, List.not_mem_nil, or_false]
      intro z
      exact nq (z ▸ (WL.fp_mem _ L).mpr (.inl ((WL.own_mem _ L).mpr (.inr (.inr (.inr rfl)))))))
    obtain ⟨ns, hn, hnt⟩ := id A2.net
    refine q_xdrop (x_bm (v_wd_network T A2 (val_var rfl)) hn (x_cons1 (val_var rfl _ ?_)))
    refine r_extend A2.net Rq2 ?_ fun H3 R3 mv4 => ?_
    · have h1 := hf.net
      have h2 := hf.out
      rw [List.length_map, List.length_map]
      show m.net.length + m.srv.outbox.length < _
      omega
    · obtain ⟨A3, mv5⟩ := A2.setNet (net := m.net ++ m.srv.outbox) (by rw [List.map_append]; exact R3) mv4
      obtain ⟨qs, hq3, hqt⟩ := mv4.rows Rq2 (by
        simp only [List.mem_cons, List.not_mem_nil, or_false]
        intro z
        exact nq (z ▸ (WL.fp_mem _ L).mpr (.inl ((WL.own_mem _ L).mpr (.inr (.inr (.inl rfl)))))))
      refine st_ret (v_to (v_len (val_var rfl) (SqL.of hq3)) (by rw [List.length_map, hqt.len, List.length_map])) ?_
      exact k H3 _ A3 rfl (((mv0.trans mv1).trans mv3).trans mv5)
theorem ok_World_crash_service {f : Addr} {fd : FuncData} (F : Fun K "crash_service" "World.crash_service" s_World_crash_service f fd) (T : Txt K mg c) (D_Disk_current : MethOk P w K mg base c.dk "current" 1 ["self"] (sp_Disk_current K c)) (D_Service_crash : MethOk P w K mg base c.sv "crash" 2 ["self", "kept"] (sp_Service_crash K c)) : FnOk P w K mg base CX0 3 f fd ["self", "kept"] (sp_World_crash_service K c) := by
  refine F.ok sc_World_crash_service (fun vs H Q E h => ?_) (fun cdv A outer s H vs Q E hr h => ?_)
  · obtain ⟨L, m, kept, rfl, A, hf, k⟩ := h
    rfl
  obtain ⟨L, m, kept, rfl, A, hf, k⟩ := h
  refine ⟨_, (pss_cons (ps_expr (pe_bm PySem.F.plainAttrs_list PySem.F.slot_list_extend PySem.F.type_list_extend mt_extend (pe_fld (pv 0) rfl) (pa_cons (pe_methD (pe_fld (pv 0) rfl) T.c_sv D_Service_crash (hr.mono (by decide)) (pa_cons (pv 1) pa_nil)) pa_nil)))
      (pss_one (ps_ret (pe_methD0 (pe_fld (pe_fld (pv 0) rfl) rfl) T.c_dk D_Disk_current (hr.mono (by decide)))))), ?_⟩
  obtain ⟨ts, htr, htt⟩ := id A.tr
  obtain ⟨ds, hs⟩ := A.sv.ob
  refine q_xdrop (x_bm (v_wd_trace T A (val_var rfl)) htr (x_cons1 ?_))
  refine x_meth (v_wd_service T A (val_var rfl)) hs m_sv_crash (av_cons (val_var rfl) av_nil) ?_
  refine ⟨L.sl, m.srv, kept, rfl, A.sv, fun H1 sl' r B hsl R hr hrf mv => ?_⟩
  obtain ⟨A1, mv1⟩ := A.setSrv B hsl mv
  refine r_extend A1.tr R ?_ fun H2 R2 mv2 => ?_
  · have h1 := hf.tr
    rw [List.length_map]
    show m.trace.length + 1 < _
    omega
  · obtain ⟨A2, mv3⟩ := A1.setTr (tr := m.trace ++ [m.srv.crashRow kept]) (by rw [List.map_append]; exact R2) mv2
    refine st_ret (v_cur (v_sv_disk T A2.sv (v_wd_service T A2 (val_var rfl))) A2.sv.dk) ?_
    exact k H2 _ A2 rfl (mv1.trans mv3)
theorem ok_World_restart_service {f : Addr} {fd : FuncData} (F : Fun K "restart_service" "World.restart_service" s_World_restart_service f fd) (T : Txt K mg c) (D_Service_restart : MethOk P w K mg base c.sv "restart" 2 ["self"] (sp_Service_restart K c)) : FnOk P w K mg base CX0 3 f fd ["self"] (sp_World_restart_service K c) := by
  refine F.ok sc_World_restart_service (fun vs H Q E h => ?_) (fun cdv A outer s H vs Q E hr h => ?_)
  · obtain ⟨L, m, rfl, A, hf, k⟩ := h
    rfl
  obtain ⟨L, m, rfl, A, hf, k⟩ := h
  refine ⟨_, (pss_cons (ps_expr (pe_bm PySem.F.plainAttrs_list PySem.F.slot_list_extend PySem.F.type_list_extend mt_extend (pe_fld (pv 0) rfl) (pa_cons (pe_methD0 (pe_fld (pv 0) rfl) T.c_sv D_Service_restart (hr.mono (by decide))) pa_nil)))
      (pss_one (ps_ret (pe_fld (pe_fld (pv 0) rfl) rfl)))), ?_⟩
  obtain ⟨ts, htr, htt⟩ := id A.tr
  obtain ⟨ds, hs⟩ := A.sv.ob
  refine q_xdrop (x_bm (v_wd_trace T A (val_var rfl)) htr (x_cons1 ?_))
  refine x_meth0 (v_wd_service T A (val_var rfl)) hs m_sv_restart ?_
  refine ⟨L.sl, m.srv, rfl, A.sv, fun H1 r B R hr mv => ?_⟩
  obtain ⟨A1, mv1⟩ := A.setSrv B rfl mv
  refine r_extend A1.tr R ?_ fun H2 R2 mv2 => ?_
  · have h1 := hf.tr
    rw [List.length_map]
    show m.trace.length + 1 < _
    omega
  · obtain ⟨A2, mv3⟩ := A1.setTr (tr := m.trace ++ [m.srv.restartRow]) (by rw [List.map_append]; exact R2) mv2
    refine st_ret (v_sv_next T A2.sv (v_wd_service T A2 (val_var rfl))) ?_
    exact k H2 _ A2 rfl (mv1.trans mv3)
theorem ok_World_calm_round {f : Addr} {fd : FuncData} (F : Fun K "calm_round" "World.calm_round" s_World_calm_round f fd) (T : Txt K mg c) (D_World_arrive : MethOk P w K mg base c.wd "arrive" 5 ["self", "message"] (sp_World_arrive K c)) (D_World_force : MethOk P w K mg base c.wd "force" 4 ["self"] (sp_World_force K c)) : FnOk P w K mg base CX0 6 f fd ["self"] (sp_World_calm_round K c) := by
  refine F.ok sc_World_calm_round (fun vs H Q E h => ?_) (fun cdv A outer s H vs Q E hr h => ?_)
  · obtain ⟨L, m, N, rfl, A, g, hN, k⟩ := h
    rfl
  obtain ⟨L, m, N, rfl, A, g, hN, k⟩ := h
  refine ⟨_, (pss_cons (ps_if (pt_val (pe_fld (pe_fld (pv 0) rfl) rfl)) (pss_one (ps_expr (pe_methD0 (pv 0) T.c_wd D_World_force (hr.mono (by decide))))) pss_nil)
      (pss_cons (ps_set (i := 1) sc_World_calm_round.nd rfl (Or.inl rfl) (pe_fld (pv 0) rfl))
      (pss_cons (ps_fld (pv 0) (pe_lst pa_nil) rfl)
      (pss_one (ps_for PassesOwn.never rfl (pi_list (pv 1)) (pg_name (i := 2) sc_World_calm_round.nd rfl (Or.inl rfl)) (pss_one (ps_expr (pe_methD (pv 0) T.c_wd D_World_arrive (hr.mono (by decide)) (pa_cons (pv 2) pa_nil))))))))), ?_⟩
  obtain ⟨dw, hw⟩ := A.ob
  refine q_ifj (R := fun H1 => ∃ L1, WorldAt c H1 L1 m.forcedIf ∧ L1.w = L.w ∧ Mv L.fp H L1.fp H1) (a_B (v_sv_up T A.sv (v_wd_service T A (val_var rfl)))) ?_ (fun h rest => ?_) (fun h => ?_)
  · rintro H1 ⟨L1, A1, hw1, mv1⟩
    have g1 := forcedIf_good g
    refine q_set (v_wd_network T A1 (val_var (by rw [hw1]; rfl))) ?_
    obtain ⟨d1, hd1⟩ := A1.ob
    refine q_fld0 (fun H => val_var (by rw [hw1]; rfl)) hd1 T.c_wd T.a_wd_network l_wd fun n' hn' hne => ?_
    rw [p_wd_network]
    generalize hH2 : upd (upd H1 n' (.lst [])) L1.w (.ins c.wd d1 (f_wd (.int m.forcedIf.reserve) (.ref L1.sl.s) (.ref L1.pl) (.ref n') (.ref L1.t))) = H2
    have hw2 : H2 L1.w = some (.ins c.wd d1 (f_wd (.int m.forcedIf.reserve) (.ref L1.sl.s) (.ref L1.pl) (.ref n') (.ref L1.t))) := by
      rw [← hH2, upd_same]
    have mv2 : Mv [L1.w] H1 [L1.w, n'] H2 := by
      rw [← hH2]
      exact (((Mv.refl [L1.w] H1).lay hn').setI (by simp) (by rw [upd_ne hne.symm]; exact hd1)).drop (by simp)
    obtain ⟨A2, mv3⟩ := A1.newNet (net := []) hn' ⟨[], by rw [← hH2, upd_ne hne, upd_same]; rfl, .nil⟩ hw2 mv2
    have old := mv2.rows A1.net (by simpa using A1.nes.2.1.symm)
    obtain ⟨as, hn, hnt⟩ := id old
    have nn : L1.n ≠ n' := by
      obtain ⟨xs, z⟩ := A1.net.live
      exact ne_of_none z hn'
    have off : L1.n ∉ ({ L1 with n := n' } : WL).fp := by
      obtain ⟨n1, n2, n3, n4, n5, n6⟩ := A1.nes
      rw [WL.fp_mem, WL.own_mem]
      simp only [not_or]
      exact ⟨⟨n2.symm, n4.symm, nn, n6⟩, fun q => A1.nds _ q ((WL.own_mem _ _).mpr (.inr (.inr (.inl rfl)))), fun q => (A1.ndq _ q).1 ((WL.own_mem _ _).mpr (.inr (.inr (.inl rfl))))⟩
    obtain ⟨g2, ph2⟩ := empty_good g1
    have ph1 := g1.phi
    refine s_for_list (val_var rfl) (SqL.of hn) (fun i σ' H' => ∃ v, σ' = [some (.ref L.w), some (.ref L1.n), v] ∧ WorldAt c H' { L1 with n := n' } ((m.forcedIf.net.take i).foldl MWorld.arrive m.forcedIf.emptied) ∧ Mv ({ L1 with n := n' } : WL).fp H2 ({ L1 with n := n' } : WL).fp H') ⟨none, rfl, A2, .refl _ _⟩ ?_ ?_ ?_
    · rintro i σ' H' _ ⟨v, rfl, A3, mv4⟩
      exact SqL.of (mv4.get hn off)
    · rintro i x σ' H' hx ⟨v, rfl, A3, mv4⟩
      have hi : i < m.forcedIf.net.length := by
        have z := (List.getElem?_eq_some_iff.mp hx).1
        rw [List.length_map, hnt.len, List.length_map] at z
        exact z
      obtain ⟨e, he⟩ : ∃ e, m.forcedIf.net[i]? = some e := ⟨_, List.getElem?_eq_getElem hi⟩
      obtain ⟨a, ha, hat⟩ := hnt.get (i := i) (r := e.row) (by rw [List.getElem?_map, he]; rfl)
      have hxa : x = .ref a := by
        rw [List.getElem?_map, ha] at hx
        exact (Option.some.inj hx).symm
      subst hxa
      have hspl : m.forcedIf.net = m.forcedIf.net.take i ++ e :: m.forcedIf.net.drop (i + 1) := by
        have z := List.take_append_drop i m.forcedIf.net
        rw [List.drop_eq_getElem_cons hi] at z
        have ez : m.forcedIf.net[i] = e := by
          rw [List.getElem?_eq_getElem hi] at he
          exact Option.some.inj he
        rw [ez] at z
        exact z.symm
      have hw3 : wts m.forcedIf.net = wts (m.forcedIf.net.take i) + (wt e + wts (m.forcedIf.net.drop (i + 1))) := by
        have z := congrArg wts hspl
        rw [wts_append, wts_cons] at z
        exact z
      have g3 := fold_good2 (x := wt e + wts (m.forcedIf.net.drop (i + 1))) (m.forcedIf.net.take i) m.forcedIf.emptied g2 (by omega) fun y hy => g1.net y (List.mem_of_mem_take hy)
      obtain ⟨d3, hw4⟩ := A3.ob
      refine x_drop (x_meth (a := L.w) (val_var rfl) (by rw [← hw1]; exact hw4) m_wd_arrive (av_cons (val_var rfl) av_nil) ?_)
      refine ⟨{ L1 with n := n' }, _, a, e, by rw [← hw1], A3, mv4.tup hat, g3.1.fit hN, ?_, fun H4 r A4 mv5 _ _ => ?_⟩
      · rw [fold_parties]
        exact g1.net e (List.mem_of_getElem? he)
      · refine ⟨some (.ref a), rfl, ?_, mv4.trans mv5⟩
        rw [List.take_add_one, he, Option.toList_some, List.foldl_append]
        exact A4
    · rintro σ' H' ⟨v, rfl, A3, mv4⟩
      have e : m.forcedIf.net.take (as.map V.ref).length = m.forcedIf.net := by
        rw [List.take_of_length_le]
        rw [List.length_map, hnt.len, List.length_map]
        exact Nat.le_refl _
      rw [e] at A3
      exact k H' _ A3 hw1 ((mv1.trans mv3).trans mv4)
  · have hu : m.srv.up = true := h
    have e1 : m.forcedIf = m.force := if_pos hu
    refine x_drop (x_meth0 (val_var rfl) hw m_wd_force ?_)
    refine ⟨L, m, rfl, A, g.fit hN, fun H1 L1 A1 hw1 mv1 => rest H1 ⟨L1, by rw [e1]; exact A1, hw1, mv1⟩⟩
  · have hu : ¬ m.srv.up = true := by
      rw [h]
      decide
    exact ⟨L, by rw [show m.forcedIf = m from if_neg hu]; exact A, rfl, .refl _ _⟩
end
end Tz
namespace Tz
open PySem PySem.Spec PyProof.Rows L2
section
variable {P : Program} {w : World} {K : PySem.W.Frag} {mg : Str → Option Value} {base : Heap} {c : CA}
/-- the parts of a world, put together -/
theorem WorldAt.mk1 {H : Hp} {p D n t dx : Addr} {l : SL} {ps : List PL} {rv : Int} {s : MSrv} {ms : List MParty} {net : List M5} {tr : List M6}
    (hw : H p = some (.ins c.wd dx (f_wd (.int rv) (.ref l.s) (.ref D) (.ref n) (.ref t)))) (A : SrvAt c H l s) (hD : H D = some (.lst (ps.map fun p => V.ref p.p))) (B : PartiesAt c H ps ms) (N : RowsAt H n (net.map M5.row)) (R : RowsAt H t (tr.map M6.row))
    (n1 : D ≠ n) (n2 : D ≠ t) (n3 : n ≠ t) (hl : ∀ a ∈ l.fp, a ≠ p ∧ a ≠ D ∧ a ≠ n ∧ a ≠ t) (nd : (psFp ps).Nodup) (hp : ∀ a ∈ psFp ps, a ≠ p ∧ a ≠ D ∧ a ≠ n ∧ a ≠ t ∧ a ∉ l.fp) :
    WorldAt c H ⟨p, D, n, t, l, ps⟩ ⟨rv, s, ms, net, tr⟩ := by
  have m1 : p ≠ D := ne_of hw hD (by intro q; cases q)
  have m2 : p ≠ n := by
    obtain ⟨xs, z⟩ := N.live
    exact ne_of hw z (by intro q; cases q)
  have m3 : p ≠ t := by
    obtain ⟨xs, z⟩ := R.live
    exact ne_of hw z (by intro q; cases q)
  refine ⟨⟨dx, hw⟩, A, hD, B, N, R, by simp [WL.own, m1, m2, m3, n1, n2, n3], fun a ha q => ?_, nd, fun a ha => ⟨fun q => ?_, (hp a ha).2.2.2.2⟩⟩
  · rw [WL.own_mem] at q
    obtain ⟨z1, z2, z3, z4⟩ := hl a ha
    rcases q with q | q | q | q
    · exact z1 q
    · exact z2 q
    · exact z3 q
    · exact z4 q
  · rw [WL.own_mem] at q
    obtain ⟨z1, z2, z3, z4, _⟩ := hp a ha
    rcases q with q | q | q | q
    · exact z1 q
    · exact z2 q
    · exact z3 q
    · exact z4 q
theorem ok_World_init {f : Addr} {fd : FuncData} (F : Fun K "__init__" "World.__init__" s_World_init f fd) (T : Txt K mg c) (D_Party_init : MakeOk P w K mg base "Party" c.py 1 ["self"] (sp_Party_init K c)) (D_Service_init : MakeOk P w K mg base "Service" c.sv 3 ["self"] (sp_Service_init K c)) : FnOk P w K mg base CX0 5 f fd ["self", "reserve", "many"] (sp_World_init K c) := by
  refine F.ok sc_World_init (fun vs H Q E h => ?_) (fun cdv A outer s H vs Q E hr h => ?_)
  · obtain ⟨p, dx, rv, many, rfl, hp, hm1, hm0, k⟩ := h
    rfl
  obtain ⟨p, dx, rv, many, rfl, hp, hm1, hm0, k⟩ := h
  refine ⟨_, (pss_cons (ps_fld (pv 0) (pv 1) rfl)
      (pss_cons (ps_fld (pv 0) (pe_makeD0 D_Service_init (hr.mono (by decide))) rfl)
      (pss_cons (ps_fld (pv 0) (pe_lc (own := [("number", 3)]) (g := gName 3) (tt := tYes) rfl sc_World_init.nd (pi_range1 (by rfl) T.z_range (pa_cons (pv 2) pa_nil)) (blkOk_by (own := [("number", 3)]) (N := n_World_init) (sc := defScope s_World_init) (by decide +kernel)) (fun _ _ _ _ _ => pg_name (i := 3) sc_World_init.nd rfl (Or.inl rfl)) (fun _ _ _ _ _ => pts_nil) (fun _ _ _ _ _ => (pe_makeD0 D_Party_init (hr.mono (by decide))))) rfl)
      (pss_cons (ps_fld (pv 0) (pe_lst pa_nil) rfl)
      (pss_one (ps_fld (pv 0) (pe_lst pa_nil) rfl)))))), ?_⟩
  refine q_fld (val_var rfl) (val_var rfl) hp T.c_wd T.a_wd_reserve (by decide) ?_
  refine q_xfld (x_make av_nil fun x dx1 nx ndx nex s0 => ?_)
  refine ⟨x, dx1, rfl, upd_same, fun H1 l A hl hf mv => ⟨rfl, ?_⟩⟩
  obtain ⟨s1, fr⟩ := made nx s0 mv
  have hp0 : upd H p (.ins c.wd dx (putF "reserve" (.int rv) [])) p = some (.ins c.wd dx (putF "reserve" (.int rv) [])) := upd_same
  have hp1 := s1 _ _ hp0
  refine ⟨_, rfl, p, c.wd, dx, _, rfl, hp1, T.c_wd, T.a_wd_service, (by show 1 < 1000; decide), ?_⟩
  have m1 : Mv [p] H (p :: l.fp) H1 := ((Mv.refl [p] H).setI (o := .ins c.wd dx (putF "reserve" (.int rv) [])) (by simp) hp).grow s1 fun b hb => by
    rcases List.mem_cons.mp hb with q | q
    · exact .inl (by simp [q])
    · exact .inr (fr b q)
  have lp : ∀ b ∈ l.fp, b ≠ p := fun b hb => (ne_of_none hp0 (fr b hb)).symm
  generalize hH2 : upd H1 p (.ins c.wd dx (putF "service" (.ref x) (putF "reserve" (.int rv) []))) = H2
  have hp2 : H2 p = some (.ins c.wd dx (putF "service" (.ref x) (putF "reserve" (.int rv) []))) := by
    rw [← hH2, upd_same]
  have e2 : Mv [p] H1 [p] H2 := by
    rw [← hH2]
    exact .updI (by simp) hp1
  have m2 : Mv [p] H (p :: l.fp) H2 := m1.trans (e2.mono (by simp))
  have A2 : SrvAt c H2 l .fresh := A.mv e2 fun b hb => by simpa using lp b hb
  refine q_xfld ?_
  refine ⟨_, rfl, many, rfl, by omega, by omega, fun D hD => ?_⟩
  refine lc_range (lo := 0) (n := many.toNat) (fun i H' => ∃ ps, Built c H2 D ps (List.replicate i .fresh) H' ∧ ps.length = i) ⟨[], Built.start hD, rfl⟩ ?_ ?_
  · rintro i H' hi ⟨ps, B, hlen⟩
    refine ⟨rfl, ?_⟩
    refine x_each ?_
    refine x_make av_nil fun y dy ny ndy ney s3 => ?_
    refine ⟨y, dy, rfl, upd_same, fun H3 r C hr hry mv3 => ⟨rfl, ?_⟩⟩
    obtain ⟨s4, fr4⟩ := made ny s3 mv3
    have hD3 := s4 _ _ B.lst
    refine ⟨_, hD3, ?_, ps ++ [⟨y, r⟩], ?_, by simp [hlen]⟩
    · rw [List.length_map, hlen]
      exact Nat.lt_of_lt_of_le (show i < 1000000 by omega) (by decide)
    · have z := B.more s4 C (fr4 y (by simp)) (fr4 r (by simp))
      rw [List.replicate_succ']
      exact z
  · rintro H3 ⟨ps, B, hlen⟩
    have s3 : Same H2 H3 := B.mv.same
    have hp3 := s3 _ _ hp2
    have m3 : Mv [p] H (p :: (l.fp ++ D :: psFp ps)) H3 := m2.grow s3 fun b hb => by
      rcases List.mem_cons.mp hb with q | q
      · exact .inl (by simp [q])
      · rcases List.mem_append.mp q with z | z
        · exact .inl (List.mem_cons_of_mem _ z)
        · rcases B.mv.new b z with z1 | z1
          · cases z1
          · exact .inr z1
    have dn : ∀ b ∈ D :: psFp ps, H2 b = none := fun b hb => (B.mv.new b hb).resolve_left (by simp)
    have d1 : ∀ b ∈ D :: psFp ps, b ≠ p := fun b hb => (ne_of_none hp2 (dn b hb)).symm
    have d2 : ∀ b ∈ D :: psFp ps, b ∉ l.fp := fun b hb q => by
      obtain ⟨o, z⟩ := A2.live b q
      rw [dn b hb] at z
      cases z
    refine ⟨_, rfl, p, c.wd, dx, _, rfl, hp3, T.c_wd, T.a_wd_parties, (by show 2 < 1000; decide), ?_⟩
    generalize hH4 : upd H3 p (.ins c.wd dx (putF "parties" (.ref D) (putF "service" (.ref x) (putF "reserve" (.int rv) [])))) = H4
    have hp4 : H4 p = some (.ins c.wd dx (putF "parties" (.ref D) (putF "service" (.ref x) (putF "reserve" (.int rv) [])))) := by
      rw [← hH4, upd_same]
    have e4 : Mv [p] H3 [p] H4 := by
      rw [← hH4]
      exact .updI (by simp) hp3
    have A4 : SrvAt c H4 l .fresh := (A2.same s3).mv e4 fun b hb => by simpa using lp b hb
    have B4 : PartiesAt c H4 ps (List.replicate many.toNat .fresh) := B.pt.mv e4 fun b hb => by simpa using d1 b (List.mem_cons_of_mem _ hb)
    have D4 := e4.get B.lst (by simpa using d1 D (List.mem_cons_self ..))
    have m4 := m3.trans (e4.mono (T := p :: (l.fp ++ D :: psFp ps)) (by simp))
    refine q_fld0 (fun H => val_var rfl) hp4 T.c_wd T.a_wd_network (by show 3 < 1000; decide) fun n hn hnp => ?_
    generalize hH5 : upd (upd H4 n (.lst [])) p (.ins c.wd dx (putF "network" (.ref n) (putF "parties" (.ref D) (putF "service" (.ref x) (putF "reserve" (.int rv) []))))) = H5
    have hp5 : H5 p = some (.ins c.wd dx (putF "network" (.ref n) (putF "parties" (.ref D) (putF "service" (.ref x) (putF "reserve" (.int rv) []))))) := by
      rw [← hH5, upd_same]
    have hn5 : H5 n = some (.lst []) := by
      rw [← hH5, upd_ne hnp, upd_same]
    have e5 : Mv [p] H4 [p, n] H5 := by
      rw [← hH5]
      exact (((Mv.refl [p] H4).lay hn).setI (by simp) (by rw [upd_ne hnp.symm]; exact hp4)).drop (by simp)
    refine s_fld0 (fun H => val_var rfl) hp5 T.c_wd T.a_wd_trace (by show 4 < 1000; decide) fun t ht htp => ?_
    rw [w_wd]
    generalize hH6 : upd (upd H5 t (.lst [])) p (.ins c.wd dx (f_wd (.int rv) (.ref x) (.ref D) (.ref n) (.ref t))) = H6
    have hp6 : H6 p = some (.ins c.wd dx (f_wd (.int rv) (.ref x) (.ref D) (.ref n) (.ref t))) := by
      rw [← hH6, upd_same]
    have e6 : Mv [p] H5 [p, t] H6 := by
      rw [← hH6]
      exact (((Mv.refl [p] H5).lay ht).setI (by simp) (by rw [upd_ne htp.symm]; exact hp5)).drop (by simp)
    have ht6 : H6 t = some (.lst []) := by
      rw [← hH6, upd_ne htp, upd_same]
    have nt : n ≠ t := ne_of_none hn5 ht
    have lx : ∀ b ∈ l.fp, b ∉ [p] := fun b hb => by simpa using lp b hb
    have px : ∀ b ∈ psFp ps, b ∉ [p] := fun b hb => by simpa using d1 b (List.mem_cons_of_mem _ hb)
    have A5 := A4.mv e5 lx
    have A6 := A5.mv e6 lx
    have B5 := B4.mv e5 px
    have B6 := B5.mv e6 px
    have D5 := e5.get D4 (by simpa using d1 D (List.mem_cons_self ..))
    have D6 := e6.get D5 (by simpa using d1 D (List.mem_cons_self ..))
    have hn6 := e6.get hn5 (by simpa using hnp)
    rw [← hl] at hp6
    refine k H6 ⟨p, D, n, t, l, ps⟩ (WorldAt.mk1 hp6 A6 D6 B6 ⟨[], hn6, .nil⟩ ⟨[], ht6, .nil⟩ (ne_of_none D4 hn) (ne_of_none D5 ht) nt (fun a ha => ?_) B.nd fun a ha => ?_) rfl ?_
    · obtain ⟨o, z⟩ := A4.live a ha
      obtain ⟨o', z'⟩ := A5.live a ha
      exact ⟨lp a ha, fun q => d2 D (List.mem_cons_self ..) (q ▸ ha), ne_of_none z hn, ne_of_none z' ht⟩
    · obtain ⟨o, z⟩ := B4.live a ha
      obtain ⟨o', z'⟩ := B5.live a ha
      exact ⟨d1 a (List.mem_cons_of_mem _ ha), fun q => B.nD (q ▸ ha), ne_of_none z hn, ne_of_none z' ht, d2 a (List.mem_cons_of_mem _ ha)⟩
    · have m5 : Mv [p] H (n :: (p :: (l.fp ++ D :: psFp ps))) H5 := (m4.more (m4.back hn)).trans (e5.sub (T := n :: (p :: (l.fp ++ D :: psFp ps))) (by simp) (by intro b hb; exact .inr (.inl hb)))
      have m6 : Mv [p] H (t :: n :: (p :: (l.fp ++ D :: psFp ps))) H6 := (m5.more (m5.back ht)).trans (e6.sub (T := t :: n :: (p :: (l.fp ++ D :: psFp ps))) (by simp) (by intro b hb; exact .inr (.inl hb)))
      refine m6.drop fun b hb => ?_
      rw [WL.fp_mem, WL.own_mem] at hb
      simp only [List.mem_cons, List.mem_append]
      grind
theorem ok_World_twin {f : Addr} {fd : FuncData} (F : Fun K "twin" "World.twin" s_World_twin f fd) (T : Txt K mg c) (D_Party_twin : MethOk P w K mg base c.py "twin" 3 ["self"] (sp_Party_twin K c)) (D_Service_twin : MethOk P w K mg base c.sv "twin" 5 ["self"] (sp_Service_twin K c)) (D_World_init : MakeOk P w K mg base "World" c.wd 5 ["self", "reserve", "many"] (sp_World_init K c)) : FnOk P w K mg base CX0 7 f fd ["self"] (sp_World_twin K c) := by
  refine F.ok sc_World_twin (fun vs H Q E h => ?_) (fun cdv A outer s H vs Q E hr h => ?_)
  · obtain ⟨L, m, rfl, A, hm, k⟩ := h
    rfl
  obtain ⟨L, m, rfl, A, hm, k⟩ := h
  refine ⟨_, (pss_cons (ps_set (i := 1) sc_World_twin.nd rfl (Or.inl rfl) (pe_makeD D_World_init (hr.mono (by decide)) (pa_cons (pe_fld (pv 0) rfl) (pa_cons pe_int pa_nil))))
      (pss_cons (ps_fld (pv 1) (pe_methD0 (pe_fld (pv 0) rfl) T.c_sv D_Service_twin (hr.mono (by decide))) rfl)
      (pss_cons (ps_fld (pv 1) (pe_lc (own := [("party", 2)]) (g := gName 2) (tt := tYes) rfl sc_World_twin.nd (pi_list (pe_fld (pv 0) rfl)) (blkOk_by (own := [("party", 2)]) (N := n_World_twin) (sc := defScope s_World_twin) (by decide +kernel)) (fun _ _ _ _ _ => pg_name (i := 2) sc_World_twin.nd rfl (Or.inl rfl)) (fun _ _ _ _ _ => pts_nil) (fun _ _ _ _ _ => (pe_methD0 (pv 2) T.c_py D_Party_twin (hr.mono (by decide))))) rfl)
      (pss_cons (ps_fld (pv 1) (pe_callTy call_list_of (by rfl) T.z_list (by decide +kernel) (pa_cons (pe_fld (pv 0) rfl) pa_nil)) rfl)
      (pss_cons (ps_fld (pv 1) (pe_callTy call_list_of (by rfl) T.z_list (by decide +kernel) (pa_cons (pe_fld (pv 0) rfl) pa_nil)) rfl)
      (pss_one (ps_ret (pv 1)))))))), ?_⟩
  refine q_xset (x_make (av_cons (v_wd_reserve T A (val_var rfl)) (av_cons val_c av_nil)) fun x dx nx ndx nex s0 => ?_)
  refine ⟨x, dx, m.reserve, 0, rfl, upd_same, by decide, by decide, fun H1 L1 W1 hw1 mv => ⟨rfl, ?_⟩⟩
  obtain ⟨s1, fr⟩ := made nx s0 mv
  obtain ⟨dy, hx1⟩ := W1.ob
  rw [hw1] at hx1
  have A1 := A.same s1
  have nA : ∀ b ∈ L.fp, b ∉ [x] := fun b hb => by
    obtain ⟨o, e⟩ := A.live b hb
    simpa using ne_of_none e nx
  -- other.service
  obtain ⟨ds, hs⟩ := A1.sv.ob
  refine q_xfld (x_meth0 (v_wd_service T A1 (val_var rfl)) hs m_sv_twin ?_)
  refine ⟨L.sl, m.srv, rfl, A1.sv, fun H2 sl B2 fr2 s2 => ?_⟩
  have hx2 := s2 _ _ hx1
  refine ⟨_, rfl, x, c.wd, dy, _, rfl, hx2, T.c_wd, T.a_wd_service, l_wd, ?_⟩
  rw [p_wd_service]
  generalize hH3 : upd H2 x (.ins c.wd dy (f_wd (.int (MWorld.fresh m.reserve 0).reserve) (.ref sl.s) (.ref L1.pl) (.ref L1.n) (.ref L1.t))) = H3
  have hx3 : H3 x = some (.ins c.wd dy (f_wd (.int m.reserve) (.ref sl.s) (.ref L1.pl) (.ref L1.n) (.ref L1.t))) := by
    rw [← hH3, upd_same]
    rfl
  have e3 : Mv [x] H2 [x] H3 := by
    rw [← hH3]
    exact .updI (by simp) hx2
  have slx : ∀ b ∈ sl.fp, b ∉ [x] := fun b hb => by simpa using (ne_of_none hx1 (fr2 b hb)).symm
  have B3 := B2.mv e3 slx
  have A3 : WorldAt c H3 L m := (A1.same s2).mv e3 nA
  -- other.parties
  refine q_xfld ?_
  refine x_lc_list (v_wd_parties T A3 (val_var rfl)) (SqL.of A3.pl) fun D hD => ?_
  refine ⟨fun i H' => ∃ ps, Built c H3 D ps (m.parties.take i) H' ∧ ps.length = i, ⟨[], Built.start hD, rfl⟩, ?_, ?_, ?_⟩
  · rintro i H' _ ⟨ps, B, _⟩
    exact SqL.of (B.mv.same _ _ A3.pl)
  · rintro i y H' hy ⟨ps, B, hlen⟩
    have hi : i < m.parties.length := by
      have z := (List.getElem?_eq_some_iff.mp hy).1
      rw [List.length_map, A3.ps.len] at z
      exact z
    obtain ⟨mp, hmp⟩ : ∃ mp, m.parties[i]? = some mp := ⟨_, List.getElem?_eq_getElem hi⟩
    have A4 := A3.same B.mv.same
    obtain ⟨l, hl, PA⟩ := A4.ps.get hmp
    have hyl : y = .ref l.p := by
      rw [List.getElem?_map, hl] at hy
      exact (Option.some.inj hy).symm
    subst hyl
    refine ⟨rfl, ?_⟩
    refine x_each ?_
    obtain ⟨dp, hp⟩ := PA.ob
    refine x_meth0 (val_var rfl) hp m_py_twin ?_
    refine ⟨l, mp, rfl, PA, fun H4 l' C n1 n2 s4 => ?_⟩
    refine ⟨_, s4 _ _ B.lst, ?_, ps ++ [l'], ?_, by simp [hlen]⟩
    · rw [List.length_map, hlen]
      exact Nat.lt_of_lt_of_le (show i < 1000000 by omega) (by decide)
    · have z := B.more s4 C n1 n2
      rw [List.take_add_one, hmp]
      exact z
  · rintro H4 ⟨ps, B, hlen⟩
    rw [List.length_map, A3.ps.len, List.take_length] at B
    have s4 : Same H3 H4 := B.mv.same
    have dn : ∀ b ∈ D :: psFp ps, H3 b = none := fun b hb => (B.mv.new b hb).resolve_left (by simp)
    have d1 : ∀ b ∈ D :: psFp ps, b ≠ x := fun b hb => (ne_of_none hx3 (dn b hb)).symm
    have d2 : ∀ b ∈ D :: psFp ps, b ∉ sl.fp := fun b hb q => by
      obtain ⟨o, z⟩ := B3.live b q
      rw [dn b hb] at z
      cases z
    have hx4 := s4 _ _ hx3
    refine ⟨_, rfl, x, c.wd, dy, _, rfl, hx4, T.c_wd, T.a_wd_parties, l_wd, ?_⟩
    rw [p_wd_parties]
    generalize hH5 : upd H4 x (.ins c.wd dy (f_wd (.int m.reserve) (.ref sl.s) (.ref D) (.ref L1.n) (.ref L1.t))) = H5
    have hx5 : H5 x = some (.ins c.wd dy (f_wd (.int m.reserve) (.ref sl.s) (.ref D) (.ref L1.n) (.ref L1.t))) := by
      rw [← hH5, upd_same]
    have e5 : Mv [x] H4 [x] H5 := by
      rw [← hH5]
      exact .updI (by simp) hx4
    have px : ∀ b ∈ psFp ps, b ∉ [x] := fun b hb => by simpa using d1 b (List.mem_cons_of_mem _ hb)
    have Dx : D ∉ [x] := by simpa using d1 D (List.mem_cons_self ..)
    have A5 : WorldAt c H5 L m := (A3.same s4).mv e5 nA
    have B5 := (B3.same s4).mv e5 slx
    have P5 := B.pt.mv e5 px
    have D5 := e5.get B.lst Dx
    -- other.network
    obtain ⟨ns, hn, hnt⟩ := id A5.net
    refine q_xfld (x_cb (av_cons (v_wd_network T A5 (val_var rfl)) av_nil) ?_)
    refine ⟨L.n, ns.map V.ref, rfl, .inl (SqL.of hn), fun n hn5 => ?_⟩
    have nnx : n ≠ x := (ne_of_none hx5 hn5).symm
    refine ⟨_, rfl, x, c.wd, dy, _, rfl, by rw [upd_ne nnx.symm]; exact hx5, T.c_wd, T.a_wd_network, l_wd, ?_⟩
    rw [p_wd_network]
    generalize hH6 : upd (upd H5 n (.lst (ns.map V.ref))) x (.ins c.wd dy (f_wd (.int m.reserve) (.ref sl.s) (.ref D) (.ref n) (.ref L1.t))) = H6
    have hx6 : H6 x = some (.ins c.wd dy (f_wd (.int m.reserve) (.ref sl.s) (.ref D) (.ref n) (.ref L1.t))) := by
      rw [← hH6, upd_same]
    have e6 : Mv [x] H5 [x] H6 := by
      rw [← hH6]
      exact ((Mv.refl [x] H5).aside hn5).setI (by simp) (by rw [upd_ne nnx.symm]; exact hx5)
    have N6 : RowsAt H6 n (m.net.map M5.row) := ⟨ns, by rw [← hH6, upd_ne nnx, upd_same], e6.tups hnt⟩
    have A6 : WorldAt c H6 L m := A5.mv e6 nA
    have B6 := B5.mv e6 slx
    have P6 := P5.mv e6 px
    have D6 := e6.get D5 Dx
    -- other.trace
    obtain ⟨ts, ht, htt⟩ := id A6.tr
    refine q_xfld (x_cb (av_cons (v_wd_trace T A6 (val_var rfl)) av_nil) ?_)
    refine ⟨L.t, ts.map V.ref, rfl, .inl (SqL.of ht), fun t ht6 => ?_⟩
    have ntx : t ≠ x := (ne_of_none hx6 ht6).symm
    refine ⟨_, rfl, x, c.wd, dy, _, rfl, by rw [upd_ne ntx.symm]; exact hx6, T.c_wd, T.a_wd_trace, l_wd, ?_⟩
    rw [p_wd_trace]
    generalize hH7 : upd (upd H6 t (.lst (ts.map V.ref))) x (.ins c.wd dy (f_wd (.int m.reserve) (.ref sl.s) (.ref D) (.ref n) (.ref t))) = H7
    have hx7 : H7 x = some (.ins c.wd dy (f_wd (.int m.reserve) (.ref sl.s) (.ref D) (.ref n) (.ref t))) := by
      rw [← hH7, upd_same]
    have e7 : Mv [x] H6 [x] H7 := by
      rw [← hH7]
      exact ((Mv.refl [x] H6).aside ht6).setI (by simp) (by rw [upd_ne ntx.symm]; exact hx6)
    have T7 : RowsAt H7 t (m.trace.map M6.row) := ⟨ts, by rw [← hH7, upd_ne ntx, upd_same], e7.tups htt⟩
    have N7 := e7.rows N6 (by simpa using nnx)
    have nt : n ≠ t := by
      obtain ⟨xs, z⟩ := N6.live
      exact ne_of_none z ht6
    have all : Same H H7 := fun b o e => by
      have hb : b ∉ [x] := by simpa using ne_of_none e nx
      exact e7.get (e6.get (e5.get (s4 _ _ (e3.get (s2 _ _ (s1 _ _ e)) hb)) hb) hb) hb
    have b3 : ∀ b, H3 b = none → H b = none := fun b h => s1.free (s2.free (e3.back h))
    refine st_ret (val_var rfl) (k H7 ⟨x, D, n, t, sl, ps⟩ (WorldAt.mk1 hx7 (B6.mv e7 slx) (e7.get D6 Dx) (P6.mv e7 px) N7 T7 (ne_of_none D5 hn5) (ne_of_none D6 ht6) nt (fun a ha => ?_) B.nd fun a ha => ?_) (fun b hb => ?_) all)
    · obtain ⟨o, z⟩ := B5.live a ha
      obtain ⟨o', z'⟩ := B6.live a ha
      exact ⟨by simpa using slx a ha, fun q => d2 D (List.mem_cons_self ..) (q ▸ ha), ne_of_none z hn5, ne_of_none z' ht6⟩
    · obtain ⟨o, z⟩ := P5.live a ha
      obtain ⟨o', z'⟩ := P6.live a ha
      exact ⟨d1 a (List.mem_cons_of_mem _ ha), fun q => B.nD (q ▸ ha), ne_of_none z hn5, ne_of_none z' ht6, d2 a (List.mem_cons_of_mem _ ha)⟩
    · rw [WL.fp_mem, WL.own_mem] at hb
      rcases hb with (q | q | q | q) | q | q
      · rw [show b = x from q]
        exact nx
      · exact b3 b (dn b (by rw [show b = D from q]; exact List.mem_cons_self ..))
      · rw [show b = n from q]
        exact b3 n (s4.free (e5.back hn5))
      · rw [show b = t from q]
        exact b3 t (s4.free (e5.back (e6.back ht6)))
      · exact s1.free (fr2 b q)
      · exact b3 b (dn b (List.mem_cons_of_mem _ q))
end
end Tz
namespace Tz
open PySem PySem.Spec PyProof.Rows L2
/-! ### two rules that the layer lacks: xs.extend(a tuple); sorted of tuples of four ints -/
set_option maxRecDepth 8000 in
theorem extend_tuple (l : Addr) (items : Array Value) (n : Nat) (b : Addr) (dict : Option Addr) (slots : Array (Option Value)) (items2 : Array Value) (n2 : Nat) (hs0 : ¬(!items.isEmpty && Builtin.List.listTooLong (items.size + items2.size)) = true) (hs1 : items.size ≤ sizeLine) (hs2 : items.size + items2.size ≤ sizeLine + 1) :
    Meets (Builtin.«list.extend» ⟨[.ref l, .ref b], []⟩) (fun _ R s => s.heap.get? l = some { cls := .type "list", dict := none, data := .seq items n, slots := #[] } ∧ s.heap.get? b = some { cls := .type "tuple", dict := dict, data := .seq items2 n2, slots := slots } ∧ R (.ok (.ret Value.none)) { s with heap := s.heap.update l (Obj.mapSeq fun x => x ++ items2), toks := s.toks }) :=
  .of_wp fun prog w A R s h => by
    obtain ⟨hp, g, d, tk, os⟩ := s; obtain ⟨hl, hb, h⟩ := h; have f1 := AutoSeq1.idx_int; have f2 := AutoSeq1.sub_tuple_tuple; have f3 := AutoSeq1.sub_list_list; have f4 := AutoSeq1.sub_tuple_list; have f5 := AutoSeq1.sub_list_tuple;
    have hz' : (items ++ items2).size ≤ sizeLine + 1 := by rw [Array.size_append]; exact hs2
    wp_walk using (wpAny_updateSeq hl rfl (hz := hs1) (_hz' := hz')), AutoSeq1.wpAny_loadPart' hl, AutoSeq1.wpAny_loadPart' hb; exact ⟨_, rfl, h⟩
def rExtendT (K : PySem.W.Frag) : V → List V → Hp → VK → Prop := fun x vs H Q => ∃ l b xs zs, x = .ref l ∧ vs = [.ref b] ∧ H l = some (.lst xs) ∧ SqT K H b zs ∧ xs.length + zs.length ≤ sizeLine ∧ Q .non (upd H l (.lst (xs ++ zs)))
theorem mt_extendT {X : Cx} : MtM X "list.extend" (rExtendT X.K) := by
  intro pins s σ H x vs v us Q I rx rv h
  obtain ⟨l, b, xs, zs, rfl, rfl, hH, hB, hz, q⟩ := h
  cases rx
  obtain ⟨u, rfl, ru⟩ := rv.one
  cases ru
  obtain ⟨z, its, n, r, hl, e⟩ := I.lstM hH
  obtain ⟨its2, r2, ⟨o2, e2, hc2, n2, hd2⟩, z2⟩ := I.tuple hB
  obtain ⟨cls, dict, data, slots⟩ := o2
  subst hc2 hd2
  have hl1 := r.length
  have hl2 := r2.length
  have hsz : its.toArray.size + its2.toArray.size ≤ sizeLine := by rw [List.size_toArray, List.size_toArray]; omega
  have hlong : ¬ (!its.toArray.isEmpty && Builtin.List.listTooLong (its.toArray.size + its2.toArray.size)) = true := by
    rw [notLongL hsz, Bool.and_false]
    exact Bool.false_ne_true
  refine call_meets F.slot_list_extend ⟨_, e, rfl⟩ F.entry_list_extend (F.args_list_extend_2 _ _)
    (extend_tuple l its.toArray n b dict slots its2.toArray n2 hlong (by rw [List.size_toArray]; omega) (by omega)) ⟨e, e2, ?_⟩
  refine ⟨.non, _, I.lset (its' := its ++ its2) hH e (by simp) (r.append r2) ?_, rfl, q⟩
  rw [List.length_append]
  omega
/-! sorted -/
def M4.key (r : M4) : List Int := [r.s, r.c, r.b, r.n]
def M4.data (r : M4) : PyData := .tuple [.int r.s, .int r.c, .int r.b, .int r.n]
theorem le_data : PySem.W.dataLe false M4.data = M4.le := by
  funext a b
  show (!PySem.W.dataLt (.tuple [.int b.s, .int b.c, .int b.b, .int b.n]) (.tuple [.int a.s, .int a.c, .int a.b, .int a.n])) = _
  rw [PySem.W.dataLt_tuple]
  have al : ∀ x y : Int, PySem.W.alike (.int x) (.int y) = true := fun x y => by simp [PySem.W.alike]
  rw [PySem.W.dataLt_cons (al _ _), PySem.W.dataLt_cons (al _ _), PySem.W.dataLt_cons (al _ _), PySem.W.dataLt_cons (al _ _)]
  have e0 : PyProof.Rows.lexLt PyProof.Rows.itemOrd (PySem.W.keyToksAll []) (PySem.W.keyToksAll []) = false := lex_irrefl _
  rw [e0]
  simp only [PySem.W.dataLt_int, PyData.eqv, beq_iff_eq]
  by_cases h1 : b.s = a.s
  · by_cases h2 : b.c = a.c
    · by_cases h3 : b.b = a.b
      · by_cases h4 : b.n = a.n
        · simp [M4.le, h1, h2, h3, h4]
        · simp only [M4.le, h1, h2, h3, h4, if_true, if_false, decide_true, Bool.true_and, Int.lt_irrefl, decide_false, Bool.false_or]
          rw [Bool.eq_iff_iff]
          simp
      · simp only [M4.le, h1, h2, h3, Ne.symm h3, if_true, if_false, decide_true, Bool.true_and, Int.lt_irrefl, decide_false, Bool.false_or]
        rw [Bool.eq_iff_iff]
        simp
        omega
    · simp only [M4.le, h1, h2, Ne.symm h2, if_true, if_false, decide_true, Bool.true_and, Int.lt_irrefl, decide_false, Bool.false_or]
      rw [Bool.eq_iff_iff]
      simp
      omega
  · simp only [M4.le, h1, Ne.symm h1, if_true, if_false, decide_true, Bool.true_and, decide_false, Bool.false_and, Bool.or_false]
    rw [Bool.eq_iff_iff]
    simp
    omega
theorem tups_each {P : Program} {w : World} {H : Hp} {h : Heap} (hok : HOk P w H h) : ∀ {as : List Addr} {bs : List M4} {its : List Value}, TupsAt H as (bs.map M4.key) → Vals (as.map V.ref) its →
    PySem.W.EachIs (fun v (b : M4) => ∃ t, v = Value.ref t ∧ H t = some (.tup (b.key.map V.int))) its bs ∧ PySem.W.EachIs (fun v (b : M4) => ∃ xs, Reads h v b.data xs) its bs
  | [], [], its, _, r => by
    cases r
    exact ⟨.nil, .nil⟩
  | [], _ :: _, _, t, _ => by cases t
  | _ :: _, [], _, t, _ => by cases t
  | a :: as, b :: bs, its, t, r => by
    cases t with
    | cons h1 h2 =>
      cases r with
      | cons r1 r2 =>
        cases r1
        obtain ⟨e1, e2⟩ := tups_each hok h2 r2
        refine ⟨.cons ⟨a, rfl, h1⟩ e1, .cons ?_ e2⟩
        obtain ⟨_, us, ru, o, eo, hc, n, hd⟩ := hok a _ h1
        have ru' : Vals [V.int b.s, V.int b.c, V.int b.b, V.int b.n] us := ru
        cases ru' with
        | cons q1 t1 => cases t1 with
          | cons q2 t2 => cases t2 with
            | cons q3 t3 => cases t3 with
              | cons q4 t4 =>
                cases t4
                obtain ⟨u1, rfl⟩ := q1
                obtain ⟨u2, rfl⟩ := q2
                obtain ⟨u3, rfl⟩ := q3
                obtain ⟨u4, rfl⟩ := q4
                exact ⟨_, .tuple eo hc hd (.cons (.int _ _) (.cons (.int _ _) (.cons (.int _ _) (.cons (.int _ _) .nil))))⟩
theorem each_tups {H : Hp} : ∀ {out : List Value} {bs : List M4}, PySem.W.EachIs (fun v (b : M4) => ∃ t, v = Value.ref t ∧ H t = some (.tup (b.key.map V.int))) out bs → ∃ as, Vals (as.map V.ref) out ∧ TupsAt H as (bs.map M4.key)
  | _, _, .nil => ⟨[], .nil, .nil⟩
  | _, _, .cons h t => by
    obtain ⟨a, rfl, h1⟩ := h
    obtain ⟨as, r, q⟩ := each_tups t
    exact ⟨a :: as, .cons rfl r, .cons h1 q⟩
def rSorted4 : List V → Hp → VK → Prop := fun vs H Q => ∃ (a : Addr) (as : List Addr) (bs : List M4), vs = [V.ref a] ∧ H a = some (.lst (as.map V.ref)) ∧ TupsAt H as (bs.map M4.key) ∧
  ∀ (as' : List Addr) (p : Addr), TupsAt H as' ((bs.mergeSort M4.le).map M4.key) → H p = none → Q (.ref p) (upd H p (.lst (as'.map V.ref)))
theorem depth_data (b : M4) : b.data.depth ≤ 2 := by
  simp [M4.data, PyData.depth, PyData.depthAll]
theorem cr_sorted4 {X : Cx} (hu : X.A.units + 64 < cLine) : CallR X (.builtin "sorted") rSorted4 := by
  intro pins s σ H vs us Q I r h
  obtain ⟨a, as, bs, rfl, hl0, ht, q⟩ := h
  obtain ⟨its, rv, hl, hz⟩ := I.list (SqL.of hl0)
  rw [Vals.ref1 r]
  obtain ⟨e, er⟩ := tups_each I.hok ht rv
  have hlen : bs.length = its.length := e.length.symm
  have hzz : its.length ≤ sizeLine := by
    rw [← rv.length]
    exact hz
  refine PySem.W.sorted_data (enc := M4.data) (bs := bs) hl.isList e er (PySem.W.AllAlike.of fun b b' => by simp [M4.data, PySem.W.alike, PySem.W.alikeAll]) (PySem.W.Sortable.tuples fun b => ⟨_, _, rfl⟩) (by rw [hlen]; exact hzz) (fun b _ => by
    have := depth_data b
    omega) fun out hlo ho => ?_
  rw [le_data] at ho
  obtain ⟨as', r2, t2⟩ := each_tups ho
  obtain ⟨ep, he'⟩ := PyProof.Rows.sortedAll_at s.heap its (List.toArray out)
  refine ⟨.ref _, upd H (s.heap.objs.size + 1) (.lst (as'.map V.ref)), I.laid (t' := s.toks) (fun _ _ => PyProof.Rows.sortedAll_old) (Nat.le_succ _) ⟨?_, out, ep, r2, he'⟩, rfl, q as' _ t2 (I.hok.fresh (Nat.le_succ _))⟩
  rw [r2.length, hlo, hlen]
  exact hzz
end Tz
namespace Tz
open PySem PySem.Spec PyProof.Rows L2
/-! ### the operations on a world -/
/-- what an operation on the world leaves, and its answer -/
def Chg (c : CA) (L : WL) (H : Hp) (r : MWorld × List Int) (Q : VK) : Prop := ∀ H' L' p, WorldAt c H' L' r.1 → L'.w = L.w → Mv L.fp H L'.fp H' → H p = none → Ints H' p r.2 → Q (.ref p) H'
def sp_has_client (K : PySem.W.Frag) (c : CA) : Sp := fun vs H Q _ => ∃ (L : WL) (m : MWorld) (cl : Int), vs = [.ref L.w, .int cl] ∧ WorldAt c H L m ∧ Q (.bl (m.has cl)) H
def sp_ask (K : PySem.W.Frag) (c : CA) : Sp := fun vs H Q _ => ∃ (L : WL) (m : MWorld) (op a : Int), vs = [.ref L.w, .int op, .int a] ∧ WorldAt c H L m ∧ Fit m ∧ Chg c L H (m.ask op a) Q
def sp_turn_client (K : PySem.W.Frag) (c : CA) : Sp := fun vs H Q _ => ∃ (L : WL) (m : MWorld) (op a : Int), vs = [.ref L.w, .int op, .int a] ∧ WorldAt c H L m ∧ Chg c L H (m.turnClient op a) Q
def sp_move_message (K : PySem.W.Frag) (c : CA) : Sp := fun vs H Q _ => ∃ (L : WL) (m : MWorld) (op a : Int) (N : Nat), vs = [.ref L.w, .int op, .int a] ∧ WorldAt c H L m ∧ Good N m ∧ N < 400000 ∧ 0 ≤ a ∧ Chg c L H (m.moveMessage op a) Q
def sp_turn_service (K : PySem.W.Frag) (c : CA) : Sp := fun vs H Q _ => ∃ (L : WL) (m : MWorld) (op a : Int), vs = [.ref L.w, .int op, .int a] ∧ WorldAt c H L m ∧ Fit m ∧ Chg c L H (m.turnService op a) Q
def sp_calm (K : PySem.W.Frag) (c : CA) : Sp := fun vs H Q _ => ∃ (L : WL) (m : MWorld) (a : Int) (N : Nat), vs = [.ref L.w, .int a] ∧ WorldAt c H L m ∧ Good N m ∧ N < 400000 ∧ -(2 ^ 62) ≤ a ∧ a < 2 ^ 62 ∧ Chg c L H (m.calm a) Q
def sp_change (K : PySem.W.Frag) (c : CA) : Sp := fun vs H Q _ => ∃ (L : WL) (m : MWorld) (op a : Int) (N : Nat), vs = [.ref L.w, .int op, .int a] ∧ WorldAt c H L m ∧ Good N m ∧ N < 400000 ∧ 0 ≤ a ∧ a < 2 ^ 62 ∧ Chg c L H (m.change op a) Q
def sp_is_step (K : PySem.W.Frag) (c : CA) : Sp := fun vs H Q _ => ∃ (op a : Int), vs = [.int op, .int a] ∧ ∀ H', Same H H' → Q (.bl (isStep op a)) H'
def sp_is_step_list (K : PySem.W.Frag) (c : CA) : Sp := fun vs H Q _ => ∃ (p : Addr) (xs : List Int), vs = [.ref p] ∧ H p = some (.lst (xs.map V.int)) ∧ xs.length < 100000 ∧ ∀ H', Same H H' → Q (.bl (isStepList xs)) H'
def sp_run_steps (K : PySem.W.Frag) (c : CA) : Sp := fun vs H Q _ => ∃ (L : WL) (m : MWorld) (p : Addr) (xs : List Int) (N : Nat), vs = [.ref L.w, .ref p] ∧ WorldAt c H L m ∧ H p = some (.lst (xs.map V.int)) ∧ p ∉ L.fp ∧ xs.length < 100000 ∧ (∀ x ∈ xs, x < 2 ^ 62) ∧ Good N m ∧ N + 5 * xs.length < 400000 ∧ Chg c L H (m.runSteps xs) Q
theorem Chg.stay {c : CA} {L : WL} {H : Hp} {m : MWorld} {z : List Int} {Q : VK} (h : Chg c L H (m, z) Q) (A : WorldAt c H L m) {p : Addr} (hp : H p = none) : Q (.ref p) (upd H p (.lst (z.map V.int))) :=
  h _ L p (A.same (same_new hp)) rfl (.side hp) hp upd_same
section
variable {P : Program} {w : World} {K : PySem.W.Frag} {mg : Str → Option Value} {base : Heap} {c : CA}
variable {σ : L2.St} {H : Hp} {L : WL} {m : MWorld}
theorem ok_has_client {f : Addr} {fd : FuncData} (F : Fun K "has_client" "has_client" s_has_client f fd) (T : Txt K mg c) : FnOk P w K mg base CX0 1 f fd ["world", "client"] (sp_has_client K c) := by
  refine F.ok sc_has_client (fun vs H Q E h => ?_) (fun cdv A outer s H vs Q E hr h => ?_)
  · obtain ⟨L, m, cl, rfl, A, k⟩ := h
    rfl
  obtain ⟨L, m, cl, rfl, A, k⟩ := h
  refine ⟨_, (pss_one (ps_ret (pe_chain op_le op_le pe_int (pv 1) (pe_callB call_len_seq (by rfl) T.z_len PySem.boot_len (pa_cons (pe_fld (pv 0) rfl) pa_nil))))), ?_⟩
  exact st_ret (v_chain val_c (val_var rfl) (fun _ => v_nparties T A (val_var rfl)) (fun Q q => r_le q) (fun _ Q q => r_le q)) k
theorem v_has {tt : TA} {E : XK} {cl : Int} (h : AV tt σ H [.ref L.w, .int cl]) (A : WorldAt c H L m) : Val (tCall (sp_has_client K c) [] E tt) σ H (.bl (m.has cl)) := v_call h fun Q q => ⟨L, m, cl, rfl, A, q⟩
theorem has_iff {m : MWorld} {cl : Int} (h : m.has cl = true) : 1 ≤ cl ∧ cl ≤ (m.parties.length : Int) := by
  unfold MWorld.has at h
  simpa using h
theorem ok_ask {f : Addr} {fd : FuncData} (F : Fun K "ask" "ask" s_ask f fd) (T : Txt K mg c) (D_World_send_request : MethOk P w K mg base c.wd "send_request" 1 ["self", "client"] (sp_World_send_request K c)) (D_World_make_request : MethOk P w K mg base c.wd "make_request" 2 ["self", "client"] (sp_World_make_request K c)) (D_has_client : DefOk P w K mg base "has_client" 1 ["world", "client"] (sp_has_client K c)) : FnOk P w K mg base CX0 3 f fd ["world", "op", "client"] (sp_ask K c) := by
  refine F.ok sc_ask (fun vs H Q E h => ?_) (fun cdv A outer s H vs Q E hr h => ?_)
  · obtain ⟨L, m, op, a, rfl, A, hf, k⟩ := h
    rfl
  obtain ⟨L, m, op, a, rfl, A, hf, k⟩ := h
  refine ⟨_, (pss_cons (ps_if (pt_not (pt_val (pe_callD D_has_client (hr.mono (by decide)) (pa_cons (pv 0) (pa_cons (pv 2) pa_nil))))) (pss_one (ps_ret (pe_lst (pa_cons (pe_un un_neg pe_int) pa_nil)))) pss_nil)
      (pss_cons (ps_set (i := 3) sc_ask.nd rfl (Or.inl rfl) (pe_ix ix_list (pe_fld (pv 0) rfl) (pe_op op_sub (pv 2) pe_int) (fun _ _ => rfl)))
      (pss_cons (ps_if (pt_not (pt_val (pe_fld (pv 3) rfl))) (pss_one (ps_ret (pe_lst (pa_cons (pe_un un_neg pe_int) pa_nil)))) pss_nil)
      (pss_cons (ps_if (pt_cmpR op_eq (pv 1) (pe_gc T.g_REQUEST_changes) (nomark _)) (pss_cons (ps_if (pt_val (pe_fld (pv 3) rfl)) (pss_one (ps_ret (pe_lst (pa_cons (pe_un un_neg pe_int) pa_nil)))) pss_nil)
      (pss_one (ps_ret (pe_methD (pv 0) T.c_wd D_World_make_request (hr.mono (by decide)) (pa_cons (pv 2) pa_nil))))) pss_nil)
      (pss_cons (ps_if (pt_not (pt_val (pe_fld (pv 3) rfl))) (pss_one (ps_ret (pe_lst (pa_cons (pe_un un_neg pe_int) pa_nil)))) pss_nil)
      (pss_one (ps_ret (pe_methD (pv 0) T.c_wd D_World_send_request (hr.mono (by decide)) (pa_cons (pv 2) pa_nil))))))))), ?_⟩
  refine q_ifn (a_not (a_B (v_has (av_cons (val_var rfl) (av_cons (val_var rfl) av_nil)) A))) (fun h => ?_) (fun h => ?_)
  · have hu : m.has a = false := by simpa using h
    rw [show m.ask op a = (m, [-3]) from if_pos hu] at k
    exact s_retL (av_cons (v_neg val_c) av_nil) fun r hr => k.stay A hr
  · have hu : m.has a = true := by simpa using h
    have hu' : ¬ m.has a = false := by rw [hu]; decide
    obtain ⟨h1, h2⟩ := has_iff hu
    obtain ⟨l, hl, B⟩ := A.party h1 h2
    obtain ⟨dw, hw⟩ := A.ob
    refine q_set (v_party T A (val_var rfl) (val_var rfl) h1 hl) ?_
    refine q_ifn (a_not (a_B (v_py_up T B (val_var rfl)))) (fun h3 => ?_) (fun h3 => ?_)
    · have e3 : (m.party a).up = false := by simpa using h3
      rw [show m.ask op a = (m, [-4]) from (if_neg hu').trans (if_pos e3)] at k
      exact s_retL (av_cons (v_neg val_c) av_nil) fun r hr => k.stay A hr
    · have e3 : ¬ (m.party a).up = false := by
        have : (m.party a).up = true := by simpa using h3
        rw [this]
        decide
      refine q_ifn (a_val (v_eq (val_var rfl) val_c)) (fun h4 => ?_) (fun h4 => ?_)
      · have e4 : op = 2 := of_decide_eq_true h4
        refine q_ifn (a_B (v_py_waiting T B (val_var rfl))) (fun h5 => ?_) (fun h5 => ?_)
        · rw [show m.ask op a = (m, [-5]) from (if_neg hu').trans ((if_neg e3).trans ((if_pos e4).trans (if_pos h5)))] at k
          exact s_retL (av_cons (v_neg val_c) av_nil) fun r hr => k.stay A hr
        · have e5 : ¬ (m.party a).waiting = true := by rw [h5]; decide
          rw [show m.ask op a = (m.makeRequest a, m.makeAns a) from (if_neg hu').trans ((if_neg e3).trans ((if_pos e4).trans (if_neg e5)))] at k
          refine x_ret (x_meth (val_var rfl) hw m_wd_make_request (av_cons (val_var rfl) av_nil) ?_)
          exact ⟨L, m, a, rfl, A, h1, h2, Nat.lt_trans hf.net (by decide), Nat.lt_trans hf.tr (by decide), fun H' r A' mv hr hi => k H' L r A' rfl mv hr hi⟩
      · have e4 : ¬ op = 2 := of_decide_eq_false h4
        refine q_ifn (a_not (a_B (v_py_waiting T B (val_var rfl)))) (fun h5 => ?_) (fun h5 => ?_)
        · have e5 : (m.party a).waiting = false := by simpa using h5
          rw [show m.ask op a = (m, [-5]) from (if_neg hu').trans ((if_neg e3).trans ((if_neg e4).trans (if_pos e5)))] at k
          exact s_retL (av_cons (v_neg val_c) av_nil) fun r hr => k.stay A hr
        · have e5 : ¬ (m.party a).waiting = false := by
            have : (m.party a).waiting = true := by simpa using h5
            rw [this]
            decide
          rw [show m.ask op a = (m.sendRequest a, m.sendAns a) from (if_neg hu').trans ((if_neg e3).trans ((if_neg e4).trans (if_neg e5)))] at k
          refine x_ret (x_meth (val_var rfl) hw m_wd_send_request (av_cons (val_var rfl) av_nil) ?_)
          exact ⟨L, m, a, rfl, A, h1, h2, Nat.lt_trans hf.net (by decide), fun H' r A' mv hr hi => k H' L r A' rfl mv hr hi⟩
theorem ok_turn_client {f : Addr} {fd : FuncData} (F : Fun K "turn_client" "turn_client" s_turn_client f fd) (T : Txt K mg c) (D_Party_restart : MethOk P w K mg base c.py "restart" 1 ["self"] (sp_Party_restart K c)) (D_Party_crash : MethOk P w K mg base c.py "crash" 1 ["self"] (sp_Party_crash K c)) (D_has_client : DefOk P w K mg base "has_client" 1 ["world", "client"] (sp_has_client K c)) : FnOk P w K mg base CX0 2 f fd ["world", "op", "client"] (sp_turn_client K c) := by
  refine F.ok sc_turn_client (fun vs H Q E h => ?_) (fun cdv A outer s H vs Q E hr h => ?_)
  · obtain ⟨L, m, op, a, rfl, A, k⟩ := h
    rfl
  obtain ⟨L, m, op, a, rfl, A, k⟩ := h
  refine ⟨_, (pss_cons (ps_if (pt_not (pt_val (pe_callD D_has_client (hr.mono (by decide)) (pa_cons (pv 0) (pa_cons (pv 2) pa_nil))))) (pss_one (ps_ret (pe_lst (pa_cons (pe_un un_neg pe_int) pa_nil)))) pss_nil)
      (pss_cons (ps_set (i := 3) sc_turn_client.nd rfl (Or.inl rfl) (pe_ix ix_list (pe_fld (pv 0) rfl) (pe_op op_sub (pv 2) pe_int) (fun _ _ => rfl)))
      (pss_cons (ps_if (pt_cmpR op_eq (pv 1) (pe_gc T.g_CRASH_CLIENT) (nomark _)) (pss_cons (ps_if (pt_not (pt_val (pe_fld (pv 3) rfl))) (pss_one (ps_ret (pe_lst (pa_cons (pe_un un_neg pe_int) pa_nil)))) pss_nil)
      (pss_cons (ps_expr (pe_methD0 (pv 3) T.c_py D_Party_crash (hr.mono (by decide))))
      (pss_one (ps_ret (pe_lst (pa_cons (pe_fld (pv 3) rfl) pa_nil)))))) pss_nil)
      (pss_cons (ps_if (pt_val (pe_fld (pv 3) rfl)) (pss_one (ps_ret (pe_lst (pa_cons (pe_un un_neg pe_int) pa_nil)))) pss_nil)
      (pss_cons (ps_expr (pe_methD0 (pv 3) T.c_py D_Party_restart (hr.mono (by decide))))
      (pss_one (ps_ret (pe_lst (pa_cons (pe_fld (pv 3) rfl) pa_nil))))))))), ?_⟩
  refine q_ifn (a_not (a_B (v_has (av_cons (val_var rfl) (av_cons (val_var rfl) av_nil)) A))) (fun h => ?_) (fun h => ?_)
  · have hu : m.has a = false := by simpa using h
    rw [show m.turnClient op a = (m, [-3]) from if_pos hu] at k
    exact s_retL (av_cons (v_neg val_c) av_nil) fun r hr => k.stay A hr
  · have hu : m.has a = true := by simpa using h
    have hu' : ¬ m.has a = false := by rw [hu]; decide
    obtain ⟨h1, h2⟩ := has_iff hu
    obtain ⟨l, hl, B⟩ := A.party h1 h2
    obtain ⟨dp, hp⟩ := B.ob
    refine q_set (v_party T A (val_var rfl) (val_var rfl) h1 hl) ?_
    refine q_ifn (a_val (v_eq (val_var rfl) val_c)) (fun h4 => ?_) (fun h4 => ?_)
    · have e4 : op = 10 := of_decide_eq_true h4
      refine q_ifn (a_not (a_B (v_py_up T B (val_var rfl)))) (fun h3 => ?_) (fun h3 => ?_)
      · have e3 : (m.party a).up = false := by simpa using h3
        rw [show m.turnClient op a = (m, [-4]) from (if_neg hu').trans ((if_pos e4).trans (if_pos e3))] at k
        exact s_retL (av_cons (v_neg val_c) av_nil) fun r hr => k.stay A hr
      · have e3 : ¬ (m.party a).up = false := by
          have : (m.party a).up = true := by simpa using h3
          rw [this]
          decide
        rw [show m.turnClient op a = (m.setParty a (m.party a).crash, [(m.party a).boot]) from (if_neg hu').trans ((if_pos e4).trans (if_neg e3))] at k
        refine q_xdrop (x_meth0 (val_var rfl) hp m_py_crash ?_)
        refine ⟨l, m.party a, rfl, B, fun H1 B1 mv => ?_⟩
        obtain ⟨A1, mv1⟩ := A.setParty hl B1 mv
        refine s_retL (av_cons (v_py_boot T B1 (val_var rfl)) av_nil) fun r hr => ?_
        exact k _ L r (A1.same (same_new hr)) rfl (mv1.aside hr) (mv1.back hr) upd_same
    · have e4 : ¬ op = 10 := of_decide_eq_false h4
      refine q_ifn (a_B (v_py_up T B (val_var rfl))) (fun h3 => ?_) (fun h3 => ?_)
      · rw [show m.turnClient op a = (m, [-4]) from (if_neg hu').trans ((if_neg e4).trans (if_pos h3))] at k
        exact s_retL (av_cons (v_neg val_c) av_nil) fun r hr => k.stay A hr
      · have e3 : ¬ (m.party a).up = true := by rw [h3]; decide
        rw [show m.turnClient op a = (m.setParty a (m.party a).restart, [(m.party a).boot + 1]) from (if_neg hu').trans ((if_neg e4).trans (if_neg e3))] at k
        refine q_xdrop (x_meth0 (val_var rfl) hp m_py_restart ?_)
        refine ⟨l, m.party a, rfl, B, fun H1 B1 mv => ?_⟩
        obtain ⟨A1, mv1⟩ := A.setParty hl B1 mv
        refine s_retL (av_cons (v_py_boot T B1 (val_var rfl)) av_nil) fun r hr => ?_
        exact k _ L r (A1.same (same_new hr)) rfl (mv1.aside hr) (mv1.back hr) upd_same
theorem ok_move_message {f : Addr} {fd : FuncData} (F : Fun K "move_message" "move_message" s_move_message f fd) (T : Txt K mg c) (D_World_take : MethOk P w K mg base c.wd "take" 1 ["self", "index"] (sp_World_take K c)) (D_World_arrive : MethOk P w K mg base c.wd "arrive" 5 ["self", "message"] (sp_World_arrive K c)) : FnOk P w K mg base CX0 6 f fd ["world", "op", "index"] (sp_move_message K c) := by
  refine F.ok sc_move_message (fun vs H Q E h => ?_) (fun cdv A outer s H vs Q E hr h => ?_)
  · obtain ⟨L, m, op, a, N, rfl, A, g, hN, ha, k⟩ := h
    rfl
  obtain ⟨L, m, op, a, N, rfl, A, g, hN, ha, k⟩ := h
  refine ⟨_, (pss_cons (ps_if (pt_cmpR op_ge (pv 2) (pe_callB call_len_seq (by rfl) T.z_len PySem.boot_len (pa_cons (pe_fld (pv 0) rfl) pa_nil)) (nomark _)) (pss_one (ps_ret (pe_lst (pa_cons (pe_un un_neg pe_int) pa_nil)))) pss_nil)
      (pss_cons (ps_if (pt_cmpR op_eq (pv 1) (pe_gc T.g_DELIVER) (nomark _)) (pss_one (ps_ret (pe_methD (pv 0) T.c_wd D_World_arrive (hr.mono (by decide)) (pa_cons (pe_methD (pv 0) T.c_wd D_World_take (hr.mono (by decide)) (pa_cons (pv 2) pa_nil)) pa_nil)))) pss_nil)
      (pss_cons (ps_if (pt_cmpR op_eq (pv 1) (pe_gc T.g_DROP) (nomark _)) (pss_one (ps_expr (pe_methD (pv 0) T.c_wd D_World_take (hr.mono (by decide)) (pa_cons (pv 2) pa_nil)))) (pss_one (ps_expr (pe_bm PySem.F.plainAttrs_list PySem.F.slot_list_append PySem.F.type_list_append mt_append (pe_fld (pv 0) rfl) (pa_cons (pe_ix ix_list (pe_fld (pv 0) rfl) (pv 2) (fun _ _ => rfl)) pa_nil)))))
      (pss_one (ps_ret (pe_lst (pa_cons (pe_callB call_len_seq (by rfl) T.z_len PySem.boot_len (pa_cons (pe_fld (pv 0) rfl) pa_nil)) pa_nil))))))), ?_⟩
  have hf := g.fit hN
  obtain ⟨dw, hw⟩ := A.ob
  refine q_ifn (a_val (v_ge (val_var rfl) (v_nnet T A (val_var rfl)))) (fun h => ?_) (fun h => ?_)
  · have h1 : (m.net.length : Int) ≤ a := of_decide_eq_true h
    rw [show m.moveMessage op a = (m, [-3]) from if_pos h1] at k
    exact s_retL (av_cons (v_neg val_c) av_nil) fun r hr => k.stay A hr
  · have h1 : ¬ (m.net.length : Int) ≤ a := of_decide_eq_false h
    obtain ⟨i, rfl⟩ : ∃ i : Nat, a = (i : Int) := ⟨a.toNat, by omega⟩
    have hi : i < m.net.length := by omega
    obtain ⟨e, he⟩ : ∃ e, m.net[i]? = some e := ⟨_, List.getElem?_eq_getElem hi⟩
    have hge : (m.net[((i : Int)).toNat]?).getD default = e := by
      rw [show ((i : Int)).toNat = i from rfl, he]
      rfl
    have eq0 : m.moveMessage op (i : Int) = if op = 4 then ((m.took i).arrive e, (m.took i).arriveAns e) else if op = 5 then (m.took i, [((m.took i).net.length : Int)]) else ({ m with net := m.net ++ [e] }, [((m.net ++ [e]).length : Int)]) := by
      unfold MWorld.moveMessage
      rw [if_neg h1]
      simp only [hge]
      rfl
    obtain ⟨gt, _⟩ := took_good g he
    refine q_ifn (a_val (v_eq (val_var rfl) val_c)) (fun h4 => ?_) (fun h4 => ?_)
    · have e4 : op = 4 := of_decide_eq_true h4
      rw [eq0, if_pos e4] at k
      refine x_ret (x_methX (val_var rfl) hw m_wd_arrive (x_cons1 (x_meth (val_var rfl) hw m_wd_take (av_cons (val_var rfl) av_nil) ?_)))
      refine ⟨L, m, i, e, rfl, A, he, Nat.lt_trans hf.net (by decide), fun H1 t A1 mv1 ht => ?_⟩
      refine ⟨L, m.took i, t, e, rfl, A1, ht, gt.fit hN, g.net e (List.mem_of_getElem? he), fun H2 r A2 mv2 hr hi2 => ?_⟩
      exact k H2 L r A2 rfl (mv1.trans mv2) (mv1.back hr) hi2
    · have e4 : ¬ op = 4 := of_decide_eq_false h4
      rw [eq0, if_neg e4] at k
      refine q_if (a_val (v_eq (val_var rfl) val_c)) (fun h5 => ?_) (fun h5 => ?_)
      · have e5 : op = 5 := of_decide_eq_true h5
        rw [if_pos e5] at k
        refine x_drop (x_meth (val_var rfl) hw m_wd_take (av_cons (val_var rfl) av_nil) ?_)
        refine ⟨L, m, i, e, rfl, A, he, Nat.lt_trans hf.net (by decide), fun H1 t A1 mv1 ht => ?_⟩
        refine s_retL (av_cons (v_nnet T A1 (val_var rfl)) av_nil) fun r hr => ?_
        exact k _ L r (A1.same (same_new hr)) rfl (mv1.aside hr) (mv1.back hr) upd_same
      · have e5 : ¬ op = 5 := of_decide_eq_false h5
        rw [if_neg e5] at k
        obtain ⟨ns, hn, hnt⟩ := id A.net
        obtain ⟨t, ht, hto⟩ := hnt.get (i := i) (r := e.row) (by rw [List.getElem?_map, he]; rfl)
        refine s_append (v_wd_network T A (val_var rfl)) hn (v_ixL (v_wd_network T A (val_var rfl)) (val_var rfl) (SqL.of hn) (get_atI (v := .ref t) (k := i) rfl (by rw [List.getElem?_map, ht]; rfl))) ?_ ?_
        · rw [List.length_map, hnt.len, List.length_map]
          exact Nat.lt_trans hf.net (by decide)
        · have mv : Mv [L.n] H [L.n] (upd H L.n (.lst (ns.map V.ref ++ [.ref t]))) := .updL (by simp) hn
          obtain ⟨A1, mv1⟩ := A.setNet (net := m.net ++ [e]) ⟨ns ++ [t], by rw [upd_same, List.map_append]; rfl, by
            rw [List.map_append]
            exact (mv.tups hnt).append (.cons (mv.tup hto) .nil)⟩ mv
          refine s_retL (av_cons (v_nnet T A1 (val_var rfl)) av_nil) fun r hr => ?_
          exact k _ L r (A1.same (same_new hr)) rfl (mv1.aside hr) (mv1.back hr) upd_same
theorem ok_turn_service {f : Addr} {fd : FuncData} (F : Fun K "turn_service" "turn_service" s_turn_service f fd) (T : Txt K mg c) (D_World_crash_service : MethOk P w K mg base c.wd "crash_service" 3 ["self", "kept"] (sp_World_crash_service K c)) (D_World_force : MethOk P w K mg base c.wd "force" 4 ["self"] (sp_World_force K c)) (D_World_restart_service : MethOk P w K mg base c.wd "restart_service" 3 ["self"] (sp_World_restart_service K c)) : FnOk P w K mg base CX0 5 f fd ["world", "op", "kept"] (sp_turn_service K c) := by
  refine F.ok sc_turn_service (fun vs H Q E h => ?_) (fun cdv A outer s H vs Q E hr h => ?_)
  · obtain ⟨L, m, op, a, rfl, A, hf, k⟩ := h
    rfl
  obtain ⟨L, m, op, a, rfl, A, hf, k⟩ := h
  refine ⟨_, (pss_cons (ps_if (pt_cmpR op_eq (pv 1) (pe_gc T.g_RESTART_SERVICE) (nomark _)) (pss_cons (ps_if (pt_val (pe_fld (pe_fld (pv 0) rfl) rfl)) (pss_one (ps_ret (pe_lst (pa_cons (pe_un un_neg pe_int) pa_nil)))) pss_nil)
      (pss_one (ps_ret (pe_lst (pa_cons (pe_methD0 (pv 0) T.c_wd D_World_restart_service (hr.mono (by decide))) pa_nil))))) pss_nil)
      (pss_cons (ps_if (pt_not (pt_val (pe_fld (pe_fld (pv 0) rfl) rfl))) (pss_one (ps_ret (pe_lst (pa_cons (pe_un un_neg pe_int) pa_nil)))) pss_nil)
      (pss_cons (ps_if (pt_cmpR op_eq (pv 1) (pe_gc T.g_FORCE) (nomark _)) (pss_one (ps_ret (pe_lst (pa_cons (pe_methD0 (pv 0) T.c_wd D_World_force (hr.mono (by decide))) pa_nil)))) pss_nil)
      (pss_one (ps_ret (pe_lst (pa_cons (pe_methD (pv 0) T.c_wd D_World_crash_service (hr.mono (by decide)) (pa_cons (pv 2) pa_nil)) pa_nil))))))), ?_⟩
  obtain ⟨dw, hw⟩ := A.ob
  refine q_ifn (a_val (v_eq (val_var rfl) val_c)) (fun h => ?_) (fun h => ?_)
  · have e1 : op = 9 := of_decide_eq_true h
    refine q_ifn (a_B (v_sv_up T A.sv (v_wd_service T A (val_var rfl)))) (fun h2 => ?_) (fun h2 => ?_)
    · rw [show m.turnService op a = (m, [-4]) from (if_pos e1).trans (if_pos h2)] at k
      exact s_retL (av_cons (v_neg val_c) av_nil) fun r hr => k.stay A hr
    · rw [show m.turnService op a = (m.restartService, [m.srv.disk.current]) from (if_pos e1).trans (if_neg (by rw [h2]; decide))] at k
      refine x_ret (x_lstX (x_cons1 (x_meth0 (val_var rfl) hw m_wd_restart_service ?_)))
      refine ⟨L, m, rfl, A, hf, fun H1 L1 A1 hw1 mv1 => ⟨by show 1 ≤ sizeLine; decide, fun r hr => ?_⟩⟩
      exact k _ L1 r (A1.same (same_new hr)) hw1 (mv1.aside hr) (mv1.back hr) upd_same
  · have e1 : ¬ op = 9 := of_decide_eq_false h
    refine q_ifn (a_not (a_B (v_sv_up T A.sv (v_wd_service T A (val_var rfl))))) (fun h2 => ?_) (fun h2 => ?_)
    · have e2 : m.srv.up = false := by simpa using h2
      rw [show m.turnService op a = (m, [-4]) from (if_neg e1).trans (if_pos e2)] at k
      exact s_retL (av_cons (v_neg val_c) av_nil) fun r hr => k.stay A hr
    · have e2 : ¬ m.srv.up = false := by
        have : m.srv.up = true := by simpa using h2
        rw [this]
        decide
      refine q_ifn (a_val (v_eq (val_var rfl) val_c)) (fun h3 => ?_) (fun h3 => ?_)
      · have e3 : op = 7 := of_decide_eq_true h3
        rw [show m.turnService op a = (m.force, [(m.srv.outbox.length : Int)]) from (if_neg e1).trans ((if_neg e2).trans (if_pos e3))] at k
        refine x_ret (x_lstX (x_cons1 (x_meth0 (val_var rfl) hw m_wd_force ?_)))
        refine ⟨L, m, rfl, A, hf, fun H1 L1 A1 hw1 mv1 => ⟨by show 1 ≤ sizeLine; decide, fun r hr => ?_⟩⟩
        exact k _ L1 r (A1.same (same_new hr)) hw1 (mv1.aside hr) (mv1.back hr) upd_same
      · have e3 : ¬ op = 7 := of_decide_eq_false h3
        rw [show m.turnService op a = (m.crashService a, [(m.srv.disk.crash a).current]) from (if_neg e1).trans ((if_neg e2).trans (if_neg e3))] at k
        refine x_ret (x_lstX (x_cons1 (x_meth (val_var rfl) hw m_wd_crash_service (av_cons (val_var rfl) av_nil) ?_)))
        refine ⟨L, m, a, rfl, A, hf, fun H1 L1 A1 hw1 mv1 => ⟨by show 1 ≤ sizeLine; decide, fun r hr => ?_⟩⟩
        exact k _ L1 r (A1.same (same_new hr)) hw1 (mv1.aside hr) (mv1.back hr) upd_same
theorem ok_calm {f : Addr} {fd : FuncData} (F : Fun K "calm" "calm" s_calm f fd) (T : Txt K mg c) (D_World_calm_round : MethOk P w K mg base c.wd "calm_round" 6 ["self"] (sp_World_calm_round K c)) : FnOk P w K mg base CX0 7 f fd ["world", "rounds"] (sp_calm K c) := by
  refine F.ok sc_calm (fun vs H Q E h => ?_) (fun cdv A outer s H vs Q E hr h => ?_)
  · obtain ⟨L, m, a, N, rfl, A, g, hN, ha, hb, k⟩ := h
    rfl
  obtain ⟨L, m, a, N, rfl, A, g, hN, ha, hb, k⟩ := h
  refine ⟨_, (pss_cons (ps_for PassesOwn.never rfl (pi_range1 (by rfl) T.z_range (pa_cons (pv 1) pa_nil)) (pg_name (i := 2) sc_calm.nd rfl (Or.inl rfl)) (pss_one (ps_expr (pe_methD0 (pv 0) T.c_wd D_World_calm_round (hr.mono (by decide))))))
      (pss_one (ps_ret (pe_lst (pa_cons (pe_callB call_len_seq (by rfl) T.z_len PySem.boot_len (pa_cons (pe_fld (pv 0) rfl) pa_nil)) pa_nil))))), ?_⟩
  refine q_for1 (val_var rfl) ⟨ha, hb⟩ (fun i σ' H' => ∃ L1 v, σ' = [some (.ref L.w), some (.int a), v] ∧ WorldAt c H' L1 (m.calmly i) ∧ L1.w = L.w ∧ Mv L.fp H L1.fp H') ⟨L, none, rfl, A, rfl, .refl _ _⟩ ?_ ?_
  · rintro i σ' H' hi ⟨L1, v, rfl, A1, hw1, mv1⟩
    obtain ⟨d1, hd1⟩ := A1.ob
    refine x_drop (x_meth0 (a := L.w) (val_var rfl) (by rw [← hw1]; exact hd1) m_wd_calm_round ?_)
    refine ⟨L1, m.calmly i, N, by rw [hw1], A1, calmly_good g i, hN, fun H2 L2 A2 hw2 mv2 => ?_⟩
    exact ⟨L2, _, rfl, A2, hw2.trans hw1, mv1.trans mv2⟩
  · rintro σ' H' ⟨L1, v, rfl, A1, hw1, mv1⟩
    refine s_retL (av_cons (v_nnet T A1 (val_var (by rw [hw1]; rfl))) av_nil) fun r hr => ?_
    exact k _ L1 r (A1.same (same_new hr)) hw1 (mv1.aside hr) (mv1.back hr) upd_same
end
end Tz
namespace Tz
open PySem PySem.Spec PyProof.Rows L2
section
variable {P : Program} {w : World} {K : PySem.W.Frag} {mg : Str → Option Value} {base : Heap} {c : CA}
variable {σ : L2.St} {H : Hp} {L : WL} {m : MWorld}
theorem Chg.same {c : CA} {L : WL} {H H1 : Hp} {r : MWorld × List Int} {Q : VK} (h : Chg c L H r Q) (s : Same H H1) : Chg c L H1 r Q := fun H' L' p A hw mv hp hi => h H' L' p A hw ((Mv.of_same s).trans mv) (s.free hp) hi
theorem ok_change {f : Addr} {fd : FuncData} (F : Fun K "change" "change" s_change f fd) (T : Txt K mg c) (D_calm : DefOk P w K mg base "calm" 7 ["world", "rounds"] (sp_calm K c)) (D_turn_client : DefOk P w K mg base "turn_client" 2 ["world", "op", "client"] (sp_turn_client K c)) (D_turn_service : DefOk P w K mg base "turn_service" 5 ["world", "op", "kept"] (sp_turn_service K c)) (D_move_message : DefOk P w K mg base "move_message" 6 ["world", "op", "index"] (sp_move_message K c)) (D_ask : DefOk P w K mg base "ask" 3 ["world", "op", "client"] (sp_ask K c)) : FnOk P w K mg base CX0 8 f fd ["world", "op", "second"] (sp_change K c) := by
  refine F.ok sc_change (fun vs H Q E h => ?_) (fun cdv A outer s H vs Q E hr h => ?_)
  · obtain ⟨L, m, op, a, N, rfl, A, g, hN, ha, hb, k⟩ := h
    rfl
  obtain ⟨L, m, op, a, N, rfl, A, g, hN, ha, hb, k⟩ := h
  refine ⟨_, (pss_cons (ps_if (pt_cmpR op_in_seq (pv 1) (pe_tup (pa_cons (pe_gc T.g_REQUEST_changes) (pa_cons (pe_gc T.g_REPEAT) pa_nil))) (by rfl)) (pss_one (ps_ret (pe_callD D_ask (hr.mono (by decide)) (pa_cons (pv 0) (pa_cons (pv 1) (pa_cons (pv 2) pa_nil)))))) pss_nil)
      (pss_cons (ps_if (pt_cmpR op_in_seq (pv 1) (pe_tup (pa_cons (pe_gc T.g_DELIVER) (pa_cons (pe_gc T.g_DROP) (pa_cons (pe_gc T.g_DUPLICATE) pa_nil)))) (by rfl)) (pss_one (ps_ret (pe_callD D_move_message (hr.mono (by decide)) (pa_cons (pv 0) (pa_cons (pv 1) (pa_cons (pv 2) pa_nil)))))) pss_nil)
      (pss_cons (ps_if (pt_cmpR op_in_seq (pv 1) (pe_tup (pa_cons (pe_gc T.g_FORCE) (pa_cons (pe_gc T.g_CRASH_SERVICE) (pa_cons (pe_gc T.g_RESTART_SERVICE) pa_nil)))) (by rfl)) (pss_one (ps_ret (pe_callD D_turn_service (hr.mono (by decide)) (pa_cons (pv 0) (pa_cons (pv 1) (pa_cons (pv 2) pa_nil)))))) pss_nil)
      (pss_cons (ps_if (pt_cmpR op_in_seq (pv 1) (pe_tup (pa_cons (pe_gc T.g_CRASH_CLIENT) (pa_cons (pe_gc T.g_RESTART_CLIENT) pa_nil))) (by rfl)) (pss_one (ps_ret (pe_callD D_turn_client (hr.mono (by decide)) (pa_cons (pv 0) (pa_cons (pv 1) (pa_cons (pv 2) pa_nil)))))) pss_nil)
      (pss_one (ps_ret (pe_callD D_calm (hr.mono (by decide)) (pa_cons (pv 0) (pa_cons (pv 2) pa_nil))))))))), ?_⟩
  have hf := g.fit hN
  refine q_inT (l := [2, 3]) (val_var rfl) (av_cons val_c (av_cons val_c av_nil)) (fun H1 s1 h1 => ?_) (fun H1 s1 h1 => ?_)
  · have e1 : op = 2 ∨ op = 3 := by simpa using h1
    rw [show m.change op a = m.ask op a from if_pos e1] at k
    exact x_ret (x_call (av_cons (val_var rfl) (av_cons (val_var rfl) (av_cons (val_var rfl) av_nil))) ⟨L, m, op, a, rfl, A.same s1, hf, k.same s1⟩)
  · have e1 : ¬ (op = 2 ∨ op = 3) := by simpa using h1
    refine q_inT (l := [4, 5, 6]) (val_var rfl) (av_cons val_c (av_cons val_c (av_cons val_c av_nil))) (fun H2 s2 h2 => ?_) (fun H2 s2 h2 => ?_)
    · have e2 : op = 4 ∨ op = 5 ∨ op = 6 := by simpa using h2
      rw [show m.change op a = m.moveMessage op a from (if_neg e1).trans (if_pos e2)] at k
      exact x_ret (x_call (av_cons (val_var rfl) (av_cons (val_var rfl) (av_cons (val_var rfl) av_nil))) ⟨L, m, op, a, N, rfl, (A.same s1).same s2, g, hN, ha, (k.same s1).same s2⟩)
    · have e2 : ¬ (op = 4 ∨ op = 5 ∨ op = 6) := by simpa using h2
      refine q_inT (l := [7, 8, 9]) (val_var rfl) (av_cons val_c (av_cons val_c (av_cons val_c av_nil))) (fun H3 s3 h3 => ?_) (fun H3 s3 h3 => ?_)
      · have e3 : op = 7 ∨ op = 8 ∨ op = 9 := by simpa using h3
        rw [show m.change op a = m.turnService op a from (if_neg e1).trans ((if_neg e2).trans (if_pos e3))] at k
        exact x_ret (x_call (av_cons (val_var rfl) (av_cons (val_var rfl) (av_cons (val_var rfl) av_nil))) ⟨L, m, op, a, rfl, ((A.same s1).same s2).same s3, hf, ((k.same s1).same s2).same s3⟩)
      · have e3 : ¬ (op = 7 ∨ op = 8 ∨ op = 9) := by simpa using h3
        refine q_inT (l := [10, 11]) (val_var rfl) (av_cons val_c (av_cons val_c av_nil)) (fun H4 s4 h4 => ?_) (fun H4 s4 h4 => ?_)
        · have e4 : op = 10 ∨ op = 11 := by simpa using h4
          rw [show m.change op a = m.turnClient op a from (if_neg e1).trans ((if_neg e2).trans ((if_neg e3).trans (if_pos e4)))] at k
          exact x_ret (x_call (av_cons (val_var rfl) (av_cons (val_var rfl) (av_cons (val_var rfl) av_nil))) ⟨L, m, op, a, rfl, (((A.same s1).same s2).same s3).same s4, (((k.same s1).same s2).same s3).same s4⟩)
        · have e4 : ¬ (op = 10 ∨ op = 11) := by simpa using h4
          rw [show m.change op a = m.calm a from (if_neg e1).trans ((if_neg e2).trans ((if_neg e3).trans (if_neg e4)))] at k
          exact x_ret (x_call (av_cons (val_var rfl) (av_cons (val_var rfl) av_nil)) ⟨L, m, a, N, rfl, (((A.same s1).same s2).same s3).same s4, g, hN, by omega, hb, (((k.same s1).same s2).same s3).same s4⟩)
theorem isStep_eq {op a : Int} (h : ¬ (op < 2 ∨ 12 < op ∨ a < 0)) : isStep op a = if op = 7 ∨ op = 9 then decide (a = 0) else if op = 12 then decide (a ≤ 20) else true := if_neg h
theorem ok_is_step {f : Addr} {fd : FuncData} (F : Fun K "is_step" "is_step" s_is_step f fd) (T : Txt K mg c) : FnOk P w K mg base CX0 1 f fd ["op", "argument"] (sp_is_step K c) := by
  refine F.ok sc_is_step (fun vs H Q E h => ?_) (fun cdv A outer s H vs Q E hr h => ?_)
  · obtain ⟨op, a, rfl, k⟩ := h
    rfl
  obtain ⟨op, a, rfl, k⟩ := h
  refine ⟨_, (pss_cons (ps_if (PW.pt (pw_or (pt_cmpR op_lt (pv 0) (pe_gc T.g_REQUEST_changes) (nomark _)) (pw_or (pt_cmpR op_gt (pv 0) (pe_gc T.g_CALM_changes) (nomark _)) (pw_or1 (pt_cmpR op_lt (pv 1) pe_int (nomark _)))))) (pss_one (ps_ret pe_bl)) pss_nil)
      (pss_cons (ps_if (pt_cmpR op_in_seq (pv 0) (pe_tup (pa_cons (pe_gc T.g_FORCE) (pa_cons (pe_gc T.g_RESTART_SERVICE) pa_nil))) (by rfl)) (pss_one (ps_ret (pe_cmpR op_eq (pv 1) pe_int (nomark _)))) pss_nil)
      (pss_cons (ps_if (pt_cmpR op_eq (pv 0) (pe_gc T.g_CALM_changes) (nomark _)) (pss_one (ps_ret (pe_cmpR op_le (pv 1) (pe_gc T.g_MOST_ROUNDS_changes) (nomark _)))) pss_nil)
      (pss_one (ps_ret pe_bl))))), ?_⟩
  refine q_ifn (a_or (a_val (v_lt (val_var rfl) val_c)) fun _ => a_or (a_val (v_gt (val_var rfl) val_c)) fun _ => a_val (v_lt (val_var rfl) val_c)) (fun h => ?_) (fun h => ?_)
  · have e1 : op < 2 ∨ 12 < op ∨ a < 0 := by simpa using h
    refine st_ret val_c ?_
    have z := k H (Same.refl H)
    rw [show isStep op a = false from if_pos e1] at z
    exact z
  · have e1 : ¬ (op < 2 ∨ 12 < op ∨ a < 0) := by simpa using h
    rw [isStep_eq e1] at k
    refine q_inT (l := [7, 9]) (val_var rfl) (av_cons val_c (av_cons val_c av_nil)) (fun H1 s1 h1 => ?_) (fun H1 s1 h1 => ?_)
    · have e2 : op = 7 ∨ op = 9 := by simpa using h1
      rw [if_pos e2] at k
      exact st_ret (v_eq (val_var rfl) val_c) (k H1 s1)
    · have e2 : ¬ (op = 7 ∨ op = 9) := by simpa using h1
      rw [if_neg e2] at k
      refine q_ifn (a_val (v_eq (val_var rfl) val_c)) (fun h3 => ?_) (fun h3 => ?_)
      · rw [if_pos (of_decide_eq_true h3)] at k
        exact st_ret (v_le (val_var rfl) val_c) (k H1 s1)
      · rw [if_neg (of_decide_eq_false h3)] at k
        exact st_ret val_c (k H1 s1)
/-- the k-th pair of an even list -/
theorem pair_at {xs : List Int} {d : Nat} (he : xs.length % 2 = 0) (hd : d < (xs.length + 2 - 1) / 2) : ∃ a b, xs[d * 2]? = some a ∧ xs[d * 2 + 1]? = some b ∧ (pairsOf xs)[d]? = some (a + 2, b) := by
  have h1 : d * 2 < xs.length := by omega
  have h2 : d * 2 + 1 < xs.length := by omega
  refine ⟨_, _, List.getElem?_eq_getElem h1, List.getElem?_eq_getElem h2, pairsOf_get xs d _ _ ?_ ?_⟩
  · rw [Nat.mul_comm]
    exact List.getElem?_eq_getElem h1
  · rw [Nat.mul_comm]
    exact List.getElem?_eq_getElem h2
theorem v_at {xs : List Int} {p : Addr} {i : Nat} {z : Int} {ta tb : TE} (ha : Val ta σ H (.ref p)) (hb : Val tb σ H (.int (i : Int))) (hl : H p = some (.lst (xs.map V.int))) (h : xs[i]? = some z) : Val (tOp (rIxL K) ta tb) σ H (.int z) :=
  v_ixL ha hb (SqL.of hl) (get_atI (k := i) rfl (by rw [List.getElem?_map, h]; rfl))
theorem v_lenI {xs : List Int} {p : Addr} {ta : TE} (ha : Val ta σ H (.ref p)) (hl : H p = some (.lst (xs.map V.int))) : Val (tCB (fun xs H Q => ∃ p ys, xs = [.ref p] ∧ (SqL K H p ys ∨ SqT K H p ys) ∧ Q (.int ys.length) H) (tCons ta tNil)) σ H (.int (xs.length : Int)) :=
  v_to (v_len ha (SqL.of hl)) (by rw [List.length_map])
theorem ok_is_step_list {f : Addr} {fd : FuncData} (F : Fun K "is_step_list" "is_step_list" s_is_step_list f fd) (T : Txt K mg c) (D_is_step : DefOk P w K mg base "is_step" 1 ["op", "argument"] (sp_is_step K c)) : FnOk P w K mg base CX0 2 f fd ["steps"] (sp_is_step_list K c) := by
  refine F.ok sc_is_step_list (fun vs H Q E h => ?_) (fun cdv A outer s H vs Q E hr h => ?_)
  · obtain ⟨p, xs, rfl, hl, hz, k⟩ := h
    rfl
  obtain ⟨p, xs, rfl, hl, hz, k⟩ := h
  refine ⟨_, (pss_cons (ps_if (PW.pt (pw_or (pt_cmpR op_ne (pe_op op_mod (pe_callB call_len_seq (by rfl) T.z_len PySem.boot_len (pa_cons (pv 0) pa_nil)) pe_int) pe_int (nomark _)) (pw_or1 (pt_cmpR op_gt (pe_callB call_len_seq (by rfl) T.z_len PySem.boot_len (pa_cons (pv 0) pa_nil)) (pe_gc T.g_MOST_STEP_NUMBERS) (nomark _))))) (pss_one (ps_ret pe_bl)) pss_nil)
      (pss_cons (ps_for PassesOwn.never rfl (pi_range3 (by rfl) T.z_range (pa_cons pe_int (pa_cons (pe_callB call_len_seq (by rfl) T.z_len PySem.boot_len (pa_cons (pv 0) pa_nil)) (pa_cons pe_int pa_nil)))) (pg_name (i := 1) sc_is_step_list.nd rfl (Or.inl rfl)) (pss_one (ps_if (pt_not (pt_val (pe_callD D_is_step (hr.mono (by decide)) (pa_cons (pe_op op_add (pe_ix ix_list (pv 0) (pv 1) (fun _ _ => rfl)) (pe_gc T.g_FIRST_STEP)) (pa_cons (pe_ix ix_list (pv 0) (pe_op op_add (pv 1) pe_int) (fun _ _ => rfl)) pa_nil))))) (pss_one (ps_ret pe_bl)) pss_nil)))
      (pss_one (ps_ret pe_bl)))), ?_⟩
  refine q_ifn (a_or (a_val (v_ne (v_mod (by decide) (v_lenI (val_var rfl) hl) val_c) val_c)) fun _ => a_val (v_gt (v_lenI (val_var rfl) hl) val_c)) (fun h => ?_) (fun h => ?_)
  · refine st_ret val_c ?_
    have z := k H (Same.refl H)
    have e : isStepList xs = false := by
      unfold isStepList
      simp only [Bool.or_eq_true, Bool.not_eq_true', decide_eq_false_iff_not, decide_eq_true_eq] at h
      rcases h with h | h
      · rw [decide_eq_false (show ¬ xs.length % 2 = 0 by omega)]
        rfl
      · rw [decide_eq_false (show ¬ xs.length ≤ 1400 by omega), Bool.false_and, Bool.and_false]
    rw [e] at z
    exact z
  · simp only [Bool.or_eq_false_iff, Bool.not_eq_false', decide_eq_false_iff_not, decide_eq_true_eq] at h
    have he : xs.length % 2 = 0 := by omega
    have hle : xs.length ≤ 1400 := by omega
    have e : isStepList xs = (pairsOf xs).all fun p => isStep p.1 p.2 := by
      unfold isStepList
      rw [decide_eq_true he, decide_eq_true hle, Bool.true_and, Bool.true_and]
    rw [e] at k
    have hlen := pairsOf_even xs he
    refine q_for3 (len := xs.length) (st := 2) val_c (v_lenI (val_var rfl) hl) val_c (by decide) (by decide) (by omega) (fun d σ' H' => ∃ v, σ' = [some (.ref p), v] ∧ Same H H' ∧ ((pairsOf xs).take d).all (fun p => isStep p.1 p.2) = true) ⟨none, rfl, Same.refl H, rfl⟩ ?_ ?_
    · rintro d σ' H' hd ⟨v, rfl, s, hall⟩
      obtain ⟨a, b, ha, hb, hp⟩ := pair_at he hd
      have hl' := s _ _ hl
      have key : ((pairsOf xs).take (d + 1)).all (fun p => isStep p.1 p.2) = isStep (a + 2) b := by
        rw [List.take_add_one, hp, List.all_append, hall]
        simp
      refine s_ifH (a_notH (a_callS (av_cons (v_add (v_at (val_var rfl) (val_var rfl) hl' ha) val_c) (av_cons (v_at (i := d * 2 + 1) (val_var rfl) (v_to (v_add (i := ((d * 2 : Nat) : Int)) (j := 1) (val_var rfl) val_c) rfl) hl' hb) av_nil)) fun Q q => ⟨a + 2, b, rfl, q⟩)) (fun h2 H2 s2 => ?_) (fun h2 H2 s2 => ?_)
      · have hb2 : isStep (a + 2) b = false := by simpa using h2
        refine st_ret val_c ?_
        have z := k H2 (s.trans s2)
        have e2 : ((pairsOf xs).all fun p => isStep p.1 p.2) = false := by
          rw [← List.take_append_drop (d + 1) (pairsOf xs), List.all_append, key, hb2]
          rfl
        rw [e2] at z
        exact z
      · have hb2 : isStep (a + 2) b = true := by simpa using h2
        exact ⟨_, rfl, s.trans s2, key.trans hb2⟩
    · rintro σ' H' ⟨v, rfl, s, hall⟩
      refine st_ret val_c ?_
      have z := k H' s
      rw [List.take_of_length_le (by omega)] at hall
      rw [hall] at z
      exact z
theorem ok_run_steps {f : Addr} {fd : FuncData} (F : Fun K "run_steps" "run_steps" s_run_steps f fd) (T : Txt K mg c) (D_change : DefOk P w K mg base "change" 8 ["world", "op", "second"] (sp_change K c)) (D_is_step_list : DefOk P w K mg base "is_step_list" 2 ["steps"] (sp_is_step_list K c)) : FnOk P w K mg base CX0 9 f fd ["world", "steps"] (sp_run_steps K c) := by
  refine F.ok sc_run_steps (fun vs H Q E h => ?_) (fun cdv A outer s H vs Q E hr h => ?_)
  · obtain ⟨L, m, p, xs, N, rfl, A, hl, hp, hz, hx62, g, hN, k⟩ := h
    rfl
  obtain ⟨L, m, p, xs, N, rfl, A, hl, hp, hz, hx62, g, hN, k⟩ := h
  refine ⟨_, (pss_cons (ps_if (pt_not (pt_val (pe_callD D_is_step_list (hr.mono (by decide)) (pa_cons (pv 1) pa_nil)))) (pss_one (ps_ret (pe_lst (pa_cons (pe_un un_neg pe_int) pa_nil)))) pss_nil)
      (pss_cons (ps_set (i := 2) sc_run_steps.nd rfl (Or.inl rfl) pe_int)
      (pss_cons (ps_set (i := 3) sc_run_steps.nd rfl (Or.inl rfl) pe_int)
      (pss_cons (ps_for PassesOwn.never rfl (pi_range3 (by rfl) T.z_range (pa_cons pe_int (pa_cons (pe_callB call_len_seq (by rfl) T.z_len PySem.boot_len (pa_cons (pv 1) pa_nil)) (pa_cons pe_int pa_nil)))) (pg_name (i := 4) sc_run_steps.nd rfl (Or.inl rfl)) (pss_cons (ps_set (i := 5) sc_run_steps.nd rfl (Or.inl rfl) (pe_callD D_change (hr.mono (by decide)) (pa_cons (pv 0) (pa_cons (pe_op op_add (pe_ix ix_list (pv 1) (pv 4) (fun _ _ => rfl)) (pe_gc T.g_FIRST_STEP)) (pa_cons (pe_ix ix_list (pv 1) (pe_op op_add (pv 4) pe_int) (fun _ _ => rfl)) pa_nil)))))
      (pss_one (ps_if (pt_cmpR op_lt (pe_ix ix_list (pv 5) pe_int (fun _ _ => rfl)) pe_int (nomark _)) (pss_one (ps_set (i := 3) sc_run_steps.nd rfl (Or.inl rfl) (pe_op op_add (pv 3) pe_int))) (pss_one (ps_set (i := 2) sc_run_steps.nd rfl (Or.inl rfl) (pe_op op_add (pv 2) pe_int)))))))
      (pss_one (ps_ret (pe_lst (pa_cons (pv 2) (pa_cons (pv 3) pa_nil))))))))), ?_⟩
  refine q_ifH (a_notH (a_callS (av_cons (val_var rfl) av_nil) fun Q q => ⟨p, xs, rfl, hl, hz, q⟩)) (fun h H1 s1 => ?_) (fun h H1 s1 => ?_)
  · have e : isStepList xs = false := by simpa using h
    rw [show m.runSteps xs = (m, [-6]) from if_pos e] at k
    exact s_retL (av_cons (v_neg val_c) av_nil) fun r hr => (k.same s1).stay (A.same s1) hr
  · have e : isStepList xs = true := by simpa using h
    have he' := e
    unfold isStepList at he'
    simp only [Bool.and_eq_true, decide_eq_true_eq, List.all_eq_true] at he'
    obtain ⟨he, hle, hall⟩ := he'
    rw [show m.runSteps xs = (((pairsOf xs).foldl stepOn (m, 0, 0)).1, [((pairsOf xs).foldl stepOn (m, 0, 0)).2.1, ((pairsOf xs).foldl stepOn (m, 0, 0)).2.2]) from if_neg (by rw [e]; decide)] at k
    have k1 := k.same s1
    have A1 := A.same s1
    have hl1 := s1 _ _ hl
    have hlen := pairsOf_even xs he
    refine q_set val_c (q_set val_c ?_)
    refine q_for3 (len := xs.length) (st := 2) val_c (v_lenI (val_var rfl) hl1) val_c (by decide) (by decide) (by omega) (fun d σ' H' => ∃ L' v u, σ' = [some (.ref L.w), some (.ref p), some (.int (((pairsOf xs).take d).foldl stepOn (m, 0, 0)).2.1), some (.int (((pairsOf xs).take d).foldl stepOn (m, 0, 0)).2.2), v, u] ∧
      WorldAt c H' L' (((pairsOf xs).take d).foldl stepOn (m, 0, 0)).1 ∧ L'.w = L.w ∧ Mv L.fp H1 L'.fp H') ⟨L, none, none, rfl, A1, rfl, .refl _ _⟩ ?_ ?_
    · rintro d σ' H' hd ⟨L', v, u, rfl, A2, hw2, mv2⟩
      obtain ⟨a, b, ha, hb, hpr⟩ := pair_at he hd
      have hl2 := mv2.get hl1 hp
      have hmem : (a + 2, b) ∈ pairsOf xs := List.mem_of_getElem? hpr
      have hst := hall _ hmem
      have hb0 : 0 ≤ b := by
        by_cases q : (a + 2) < 2 ∨ 12 < (a + 2) ∨ b < 0
        · have : isStep (a + 2) b = false := if_pos q
          rw [this] at hst
          cases hst
        · omega
      have hb62 : b < 2 ^ 62 := hx62 b (List.mem_of_getElem? hb)
      have g2 := steps_good ((pairsOf xs).take d) (m, 0, 0) g fun q hq => by
        have z := hall q (List.mem_of_mem_take hq)
        by_cases y : q.1 < 2 ∨ 12 < q.1 ∨ q.2 < 0
        · have : isStep q.1 q.2 = false := if_pos y
          rw [this] at z
          cases z
        · omega
      rw [List.length_take] at g2
      have more : ((pairsOf xs).take (d + 1)).foldl stepOn (m, 0, 0) = stepOn (((pairsOf xs).take d).foldl stepOn (m, 0, 0)) (a + 2, b) := by
        rw [List.take_add_one, hpr, Option.toList_some, List.foldl_append]
        rfl
      rw [more]
      generalize ((pairsOf xs).take d).foldl stepOn (m, 0, 0) = x at *
      refine q_xset (x_call (av_cons (val_var rfl) (av_cons (v_add (v_at (val_var rfl) (val_var rfl) hl2 ha) val_c) (av_cons (v_at (i := d * 2 + 1) (val_var rfl) (v_to (v_add (i := ((d * 2 : Nat) : Int)) (j := 1) (val_var rfl) val_c) rfl) hl2 hb) av_nil))) ?_)
      refine ⟨L', x.1, a + 2, b, N + 5 * min d (pairsOf xs).length, by rw [hw2], A2, g2, by omega, hb0, hb62, fun H3 L3 r A3 hw3 mv3 hr hi => ?_⟩
      obtain ⟨z, zs, hzs⟩ := change_ans x.1 (a + 2) b
      unfold Ints at hi
      rw [hzs] at hi
      have es : stepOn x (a + 2, b) = if z < 0 then ((x.1.change (a + 2) b).1, x.2.1, x.2.2 + 1) else ((x.1.change (a + 2) b).1, x.2.1 + 1, x.2.2) := by
        unfold stepOn
        simp only [hzs]
        rfl
      rw [es]
      refine s_if (a_val (v_lt (v_ixL (val_var rfl) val_c (SqL.of hi) (get_atI (v := .int z) (k := 0) rfl rfl)) val_c)) (fun h3 => ?_) (fun h3 => ?_)
      · rw [if_pos (of_decide_eq_true h3)]
        exact st_set (v_add (val_var rfl) val_c) ⟨L3, _, _, rfl, A3, hw3.trans hw2, mv2.trans mv3⟩
      · rw [if_neg (of_decide_eq_false h3)]
        exact st_set (v_add (val_var rfl) val_c) ⟨L3, _, _, rfl, A3, hw3.trans hw2, mv2.trans mv3⟩
    · rintro σ' H' ⟨L', v, u, rfl, A2, hw2, mv2⟩
      rw [List.take_of_length_le (by omega)] at A2 ⊢
      refine s_retL (av_cons (val_var rfl) (av_cons (val_var rfl) av_nil)) fun r hr => ?_
      exact k1 _ L' r (A2.same (same_new hr)) hw2 (mv2.aside hr) (mv2.back hr) upd_same
end
end Tz
namespace Tz
open PySem PySem.Spec PyProof.Rows L2
/-! ### the operations that look -/
def NewI (H : Hp) (xs : List Int) (Q : VK) : Prop := ∀ H' p, Same H H' → H p = none → Ints H' p xs → Q (.ref p) H'
def NewR (H : Hp) (rs : List (List Int)) (Q : VK) : Prop := ∀ H' p, Same H H' → H p = none → RowsAt H' p rs → Q (.ref p) H'
def Kinds (m : MWorld) : Prop := ∀ r ∈ m.trace, 0 ≤ r.k ∧ r.k < 7
theorem NewI.here {H : Hp} {xs : List Int} {Q : VK} (k : NewI H xs Q) {p : Addr} (hp : H p = none) : Q (.ref p) (upd H p (.lst (xs.map V.int))) := k _ p (same_new hp) hp upd_same
theorem NewI.same {H H1 : Hp} {xs : List Int} {Q : VK} (k : NewI H xs Q) (s : Same H H1) : NewI H1 xs Q := fun H' p s' hp hi => k H' p (s.trans s') (s.free hp) hi
def sp_truth (K : PySem.W.Frag) (c : CA) : Sp := fun vs H Q _ => ∃ b : Bool, vs = [.bl b] ∧ Q (.int (truth b)) H
def sp_page (K : PySem.W.Frag) (c : CA) : Sp := fun vs H Q _ => ∃ (p : Addr) (rs : List (List Int)) (first : Int), vs = [.ref p, .int first] ∧ RowsAt H p rs ∧ rs.length < 1000000 ∧ (∀ r ∈ rs, r.length ≤ 6) ∧ 0 ≤ first ∧ first < 2 ^ 61 ∧ NewI H (page rs first) Q
def sp_get_service (K : PySem.W.Frag) (c : CA) : Sp := fun vs H Q _ => ∃ (L : WL) (m : MWorld), vs = [.ref L.w] ∧ WorldAt c H L m ∧ NewI H m.serviceAns Q
def sp_get_client (K : PySem.W.Frag) (c : CA) : Sp := fun vs H Q _ => ∃ (L : WL) (m : MWorld) (cl : Int), vs = [.ref L.w, .int cl] ∧ WorldAt c H L m ∧ NewI H (m.clientAns cl) Q
def sp_history (K : PySem.W.Frag) (c : CA) : Sp := fun vs H Q _ => ∃ (L : WL) (m : MWorld), vs = [.ref L.w] ∧ WorldAt c H L m ∧ m.trace.length < 500000 ∧ NewR H (m.history.map M5.row) Q
def sp_order (K : PySem.W.Frag) (c : CA) : Sp := fun vs H Q _ => ∃ (L : WL) (m : MWorld), vs = [.ref L.w] ∧ WorldAt c H L m ∧ m.trace.length < 500000 ∧ NewR H (m.order.map M4.row) Q
def sp_get_statistics (K : PySem.W.Frag) (c : CA) : Sp := fun vs H Q _ => ∃ (L : WL) (m : MWorld), vs = [.ref L.w] ∧ WorldAt c H L m ∧ Kinds m ∧ NewI H m.statistics Q
def sp_get_restart_values (K : PySem.W.Frag) (c : CA) : Sp := fun vs H Q _ => ∃ (L : WL) (m : MWorld), vs = [.ref L.w] ∧ WorldAt c H L m ∧ m.srv.disk.unf.length < 500000 ∧ NewI H m.restartValues Q
section
variable {P : Program} {w : World} {K : PySem.W.Frag} {mg : Str → Option Value} {base : Heap} {c : CA}
variable {σ : L2.St} {H : Hp} {L : WL} {m : MWorld} {tt : TA} {ta : TE} {E : XK}
theorem ok_truth {f : Addr} {fd : FuncData} (F : Fun K "truth" "truth" s_truth f fd) (T : Txt K mg c) : FnOk P w K mg base CX0 1 f fd ["yes"] (sp_truth K c) := by
  refine F.ok sc_truth (fun vs H Q E h => ?_) (fun cdv A outer s H vs Q E hr h => ?_)
  · obtain ⟨b, rfl, k⟩ := h
    rfl
  obtain ⟨b, rfl, k⟩ := h
  refine ⟨_, (pss_cons (ps_if (pt_val (pv 0)) (pss_one (ps_ret pe_int)) pss_nil)
      (pss_one (ps_ret pe_int))), ?_⟩
  refine q_ifn (a_B (v_to (x := .bl b) (val_var rfl) rfl)) (fun h => ?_) (fun h => ?_)
  · rw [show truth b = 1 from if_pos h] at k
    exact st_ret val_c k
  · rw [show truth b = 0 from if_neg (by rw [h]; decide)] at k
    exact st_ret val_c k
theorem v_truth {b : Bool} (h : Val ta σ H (.bl b)) : Val (tCall (sp_truth K c) [] E (tCons ta tNil)) σ H (.int (truth b)) := v_call (av_cons h av_nil) fun Q q => ⟨b, rfl, q⟩
theorem take_sum {rs : List (List Int)} (h : ∀ r ∈ rs, r.length ≤ 6) : ∀ n, ((rs.take n).flatten).length ≤ 6 * n
  | 0 => by simp
  | n + 1 => by
    rw [List.take_add_one, List.flatten_append, List.length_append]
    have ih := take_sum h n
    cases e : rs[n]? with
    | none =>
      rw [Option.toList_none, List.flatten_nil, List.length_nil]
      omega
    | some r =>
      have := h r (List.mem_of_getElem? e)
      rw [Option.toList_some, List.flatten_cons, List.flatten_nil, List.append_nil]
      omega
theorem ok_page {f : Addr} {fd : FuncData} (F : Fun K "page" "page" s_page f fd) (T : Txt K mg c) : FnOk P w K mg base CX0 1 f fd ["rows", "first"] (sp_page K c) := by
  refine F.ok sc_page (fun vs H Q E h => ?_) (fun cdv A outer s H vs Q E hr h => ?_)
  · obtain ⟨p, rs, first, rfl, R, hz, hr6, h0, h61, k⟩ := h
    rfl
  obtain ⟨p, rs, first, rfl, R, hz, hr6, h0, h61, k⟩ := h
  refine ⟨_, (pss_cons (ps_set (i := 2) sc_page.nd rfl (Or.inl rfl) (pe_callB call_len_seq (by rfl) T.z_len PySem.boot_len (pa_cons (pv 0) pa_nil)))
      (pss_cons (ps_set (i := 3) sc_page.nd rfl (Or.inl rfl) pe_int)
      (pss_cons (ps_if (pt_cmpR op_lt (pv 1) (pv 2) (nomark _)) (pss_one (ps_set (i := 3) sc_page.nd rfl (Or.inl rfl) (pe_callB (call_min2 rfl) (by rfl) T.z_min (by decide +kernel) (pa_cons (pe_gc T.g_PAGE) (pa_cons (pe_op op_sub (pv 2) (pv 1)) pa_nil))))) pss_nil)
      (pss_cons (ps_set (i := 4) sc_page.nd rfl (Or.inl rfl) (pe_lst (pa_cons (pv 2) (pa_cons (pv 3) pa_nil))))
      (pss_cons (ps_for PassesOwn.never rfl (pi_range2 (by rfl) T.z_range (pa_cons (pv 1) (pa_cons (pe_op op_add (pv 1) (pv 3)) pa_nil))) (pg_name (i := 5) sc_page.nd rfl (Or.inl rfl)) (pss_one (ps_expr (pe_bm PySem.F.plainAttrs_list PySem.F.slot_list_extend PySem.F.type_list_extend mt_extendT (pv 4) (pa_cons (pe_ix ix_list (pv 0) (pv 5) (fun _ _ => rfl)) pa_nil)))))
      (pss_one (ps_ret (pv 4)))))))), ?_⟩
  obtain ⟨as, hl, ht⟩ := id R
  refine q_set (v_to (x := .int (rs.length : Int)) (v_len (val_var rfl) (SqL.of hl)) (by rw [List.length_map, ht.len])) ?_
  refine q_set val_c ?_
  obtain ⟨shown, hsh⟩ : ∃ s : Nat, (s : Int) = if first < (rs.length : Int) then (if (rs.length : Int) - first < 50 then (rs.length : Int) - first else 50) else 0 := by
    refine ⟨(if first < (rs.length : Int) then (if (rs.length : Int) - first < 50 then (rs.length : Int) - first else 50) else 0).toNat, ?_⟩
    split
    · split <;> omega
    · omega
  have hs50 : shown ≤ 50 ∧ (shown ≠ 0 → first + (shown : Int) ≤ (rs.length : Int)) := by
    split at hsh
    · split at hsh <;> omega
    · omega
  have ek : page rs first = [(rs.length : Int), (shown : Int)] ++ ((rs.drop first.toNat).take shown).flatten := by
    unfold page
    simp only [← hsh]
    rfl
  rw [ek] at k
  refine q_ifjs (R := fun σ' H' => H' = H ∧ ∃ v, σ' = [some (.ref p), some (.int first), some (.int (rs.length : Int)), some (.int (shown : Int)), v, none]) (a_val (v_lt (val_var rfl) (val_var rfl))) ?_ (fun h rest => ?_) (fun h => ?_)
  · rintro σ' H' ⟨rfl, v, rfl⟩
    refine q_xset (x_lst (av_cons (val_var rfl) (av_cons (val_var rfl) av_nil)) fun q hq => ?_)
    have s1 : Same H' (upd H' q (.lst [V.int (rs.length : Int), V.int (shown : Int)])) := same_new hq
    have m1 : Mv [] H' [q] (upd H' q (.lst [V.int (rs.length : Int), V.int (shown : Int)])) := .laid hq
    generalize hH1 : upd H' q (.lst [V.int (rs.length : Int), V.int (shown : Int)]) = H1 at *
    have hq1 : H1 q = some (.lst (([(rs.length : Int), (shown : Int)] : List Int).map V.int)) := by
      rw [← hH1, upd_same]
      rfl
    have npq : p ≠ q := ne_of_none hl hq
    refine q_for2 (val_var rfl) (v_add (val_var rfl) (val_var rfl)) ⟨by omega, by omega, by omega, by omega⟩ (fun d σ' H' => ∃ u, σ' = [some (.ref p), some (.int first), some (.int (rs.length : Int)), some (.int (shown : Int)), some (.ref q), u] ∧
      H' q = some (.lst (([(rs.length : Int), (shown : Int)] ++ ((rs.drop first.toNat).take d).flatten).map V.int)) ∧ Mv [q] H1 [q] H') ⟨none, rfl, by rw [hq1]; simp, .refl _ _⟩ ?_ ?_
    · rintro d σ' H' hd ⟨u, rfl, hq2, mv⟩
      have hd' : d < shown := by omega
      have hlt : first.toNat + d < rs.length := by
        have := hs50.2 (by omega)
        omega
      obtain ⟨r, hr⟩ : ∃ r, rs[first.toNat + d]? = some r := ⟨_, List.getElem?_eq_getElem hlt⟩
      obtain ⟨t, hta, hto⟩ := ht.get hr
      have hl2 := mv.get (s1 _ _ hl) (by simpa using npq)
      have hr6' := hr6 r (List.mem_of_getElem? hr)
      have hsum := take_sum (rs := rs.drop first.toNat) (fun r hr => hr6 r (List.mem_of_mem_drop hr)) d
      refine x_drop (x_bm (val_var rfl) hq2 (x_cons1 ?_))
      refine v_ixL (val_var rfl) (val_var rfl) (SqL.of hl2) (get_atI (v := .ref t) (k := first.toNat + d) (by omega) (by rw [List.getElem?_map, hta]; rfl)) _ ?_
      refine ⟨q, t, _, r.map V.int, rfl, rfl, hq2, SqT.of (mv.tup (s1 _ _ hto)), ?_, ?_⟩
      · rw [List.length_map, List.length_map, List.length_append]
        simp only [List.length_cons, List.length_nil]
        exact Nat.le_trans (show _ ≤ 1000 by omega) (by decide)
      · refine ⟨_, rfl, ?_, mv.setL (by simp) hq2⟩
        rw [upd_same, ← List.map_append, List.append_assoc]
        congr 4
        rw [List.take_add_one, List.getElem?_drop, hr]
        simp
    · rintro σ' H' ⟨u, rfl, hq2, mv⟩
      have e : ((first + (shown : Int)) - first).toNat = shown := by omega
      rw [e] at hq2
      exact st_ret (val_var rfl) (k H' q (m1.trans mv).same hq hq2)
  · have e : first < (rs.length : Int) := of_decide_eq_true h
    rw [if_pos e] at hsh
    refine st_set (v_to (x := .int (shown : Int)) (v_min2 val_c (v_sub (val_var rfl) (val_var rfl))) (by rw [hsh])) ?_
    exact rest _ H ⟨rfl, none, rfl⟩
  · have e : ¬ first < (rs.length : Int) := of_decide_eq_false h
    rw [if_neg e] at hsh
    have e0 : shown = 0 := by omega
    subst e0
    exact ⟨rfl, none, rfl⟩
theorem ok_get_service {f : Addr} {fd : FuncData} (F : Fun K "get_service" "get_service" s_get_service f fd) (T : Txt K mg c) (D_Disk_current : MethOk P w K mg base c.dk "current" 1 ["self"] (sp_Disk_current K c)) (D_truth : DefOk P w K mg base "truth" 1 ["yes"] (sp_truth K c)) : FnOk P w K mg base CX0 2 f fd ["world"] (sp_get_service K c) := by
  refine F.ok sc_get_service (fun vs H Q E h => ?_) (fun cdv A outer s H vs Q E hr h => ?_)
  · obtain ⟨L, m, rfl, A, k⟩ := h
    rfl
  obtain ⟨L, m, rfl, A, k⟩ := h
  refine ⟨_, (pss_cons (ps_set (i := 1) sc_get_service.nd rfl (Or.inl rfl) (pe_fld (pv 0) rfl))
      (pss_cons (ps_set (i := 2) sc_get_service.nd rfl (Or.inl rfl) pe_int)
      (pss_cons (ps_if (pt_val (pe_fld (pv 1) rfl)) (pss_one (ps_set (i := 2) sc_get_service.nd rfl (Or.inl rfl) (pe_fld (pv 1) rfl))) pss_nil)
      (pss_cons (ps_set (i := 3) sc_get_service.nd rfl (Or.inl rfl) (pe_fld (pv 1) rfl))
      (pss_one (ps_ret (pe_lst (pa_cons (pe_callD D_truth (hr.mono (by decide)) (pa_cons (pe_fld (pv 1) rfl) pa_nil)) (pa_cons (pv 2) (pa_cons (pe_fld (pv 3) rfl) (pa_cons (pe_methD0 (pv 3) T.c_dk D_Disk_current (hr.mono (by decide))) (pa_cons (pe_callB call_len_seq (by rfl) T.z_len PySem.boot_len (pa_cons (pe_fld (pv 1) rfl) pa_nil)) (pa_cons (pe_fld (pv 1) rfl) (pa_cons (pe_fld (pv 0) rfl) (pa_cons (pe_callB call_len_seq (by rfl) T.z_len PySem.boot_len (pa_cons (pe_fld (pv 0) rfl) pa_nil)) pa_nil))))))))))))))), ?_⟩
  refine q_set (v_wd_service T A (val_var rfl)) ?_
  refine q_set val_c ?_
  have rest : ∀ x : Int, x = (if m.srv.up = true then m.srv.next else 0) → ∀ σ' : L2.St, σ' = [some (.ref L.w), some (.ref L.sl.s), some (.int x), none] → (fun σ' H' => σ' = [some (.ref L.w), some (.ref L.sl.s), some (.int (if m.srv.up = true then m.srv.next else 0)), none] ∧ H' = H) σ' H := by
    rintro x rfl σ' rfl
    exact ⟨rfl, rfl⟩
  refine q_ifjs (R := fun σ' H' => σ' = [some (.ref L.w), some (.ref L.sl.s), some (.int (if m.srv.up = true then m.srv.next else 0)), none] ∧ H' = H) (a_B (v_sv_up T A.sv (val_var rfl))) ?_ (fun h k2 => ?_) (fun h => ?_)
  · rintro σ' H' ⟨rfl, rfl⟩
    refine q_set (v_sv_disk T A.sv (val_var rfl)) ?_
    obtain ⟨os, ho, hot⟩ := id A.sv.out
    refine s_retL (av_cons (v_truth (v_sv_up T A.sv (val_var rfl))) (av_cons (val_var rfl) (av_cons (v_dk_forced T A.sv.dk (val_var rfl)) (av_cons (v_cur (val_var rfl) A.sv.dk) (av_cons (v_to (x := .int (m.srv.outbox.length : Int)) (v_len (v_sv_outbox T A.sv (val_var rfl)) (SqL.of ho)) (by rw [List.length_map, hot.len, List.length_map]))
      (av_cons (v_sv_life T A.sv (val_var rfl)) (av_cons (v_wd_reserve T A (val_var rfl)) (av_cons (v_nparties T A (val_var rfl)) av_nil)))))))) fun r hr => ?_
    exact k.here hr
  · refine st_set (v_sv_next T A.sv (val_var rfl)) (k2 _ H ⟨?_, rfl⟩)
    rw [if_pos h]
    rfl
  · rw [if_neg (by rw [h]; decide)]
    exact ⟨rfl, rfl⟩
theorem ok_get_client {f : Addr} {fd : FuncData} (F : Fun K "get_client" "get_client" s_get_client f fd) (T : Txt K mg c) (D_Party_last_received : MethOk P w K mg base c.py "last_received" 1 ["self"] (sp_Party_last_received K c)) (D_truth : DefOk P w K mg base "truth" 1 ["yes"] (sp_truth K c)) : FnOk P w K mg base CX0 2 f fd ["world", "client"] (sp_get_client K c) := by
  refine F.ok sc_get_client (fun vs H Q E h => ?_) (fun cdv A outer s H vs Q E hr h => ?_)
  · obtain ⟨L, m, cl, rfl, A, k⟩ := h
    rfl
  obtain ⟨L, m, cl, rfl, A, k⟩ := h
  refine ⟨_, (pss_cons (ps_if (PW.pt (pw_or (pt_cmpR op_lt (pv 1) pe_int (nomark _)) (pw_or1 (pt_cmpR op_gt (pv 1) (pe_callB call_len_seq (by rfl) T.z_len PySem.boot_len (pa_cons (pe_fld (pv 0) rfl) pa_nil)) (nomark _))))) (pss_one (ps_ret (pe_lst (pa_cons (pe_un un_neg pe_int) pa_nil)))) pss_nil)
      (pss_cons (ps_set (i := 2) sc_get_client.nd rfl (Or.inl rfl) (pe_ix ix_list (pe_fld (pv 0) rfl) (pe_op op_sub (pv 1) pe_int) (fun _ _ => rfl)))
      (pss_one (ps_ret (pe_lst (pa_cons (pe_callD D_truth (hr.mono (by decide)) (pa_cons (pe_fld (pv 2) rfl) pa_nil)) (pa_cons (pe_fld (pv 2) rfl) (pa_cons (pe_fld (pv 2) rfl) (pa_cons (pe_callD D_truth (hr.mono (by decide)) (pa_cons (pe_fld (pv 2) rfl) pa_nil)) (pa_cons (pe_callB call_len_seq (by rfl) T.z_len PySem.boot_len (pa_cons (pe_fld (pv 2) rfl) pa_nil)) (pa_cons (pe_methD0 (pv 2) T.c_py D_Party_last_received (hr.mono (by decide))) pa_nil))))))))))), ?_⟩
  refine q_ifn (a_or (a_val (v_lt (val_var rfl) val_c)) fun _ => a_val (v_gt (val_var rfl) (v_nparties T A (val_var rfl)))) (fun h => ?_) (fun h => ?_)
  · have e : cl < 1 ∨ (m.parties.length : Int) < cl := by simpa using h
    rw [show m.clientAns cl = [-3] from if_pos e] at k
    exact s_retL (av_cons (v_neg val_c) av_nil) fun r hr => k.here hr
  · have e : ¬ (cl < 1 ∨ (m.parties.length : Int) < cl) := by simpa using h
    have h1 : 1 ≤ cl := by omega
    have h2 : cl ≤ (m.parties.length : Int) := by omega
    obtain ⟨l, hl, B⟩ := A.party h1 h2
    obtain ⟨dp, hp⟩ := B.ob
    rw [show m.clientAns cl = [truth (m.party cl).up, (m.party cl).boot, (m.party cl).nonce, truth (m.party cl).waiting, ((m.party cl).received.length : Int), (m.party cl).last] from if_neg e] at k
    refine q_set (v_party T A (val_var rfl) (val_var rfl) h1 hl) ?_
    refine s_retL (av_cons (v_truth (v_py_up T B (val_var rfl))) (av_cons (v_py_boot T B (val_var rfl)) (av_cons (v_py_nonce T B (val_var rfl)) (av_cons (v_truth (v_py_waiting T B (val_var rfl)))
      (av_cons (v_to (x := .int ((m.party cl).received.length : Int)) (v_len (v_py_received T B (val_var rfl)) (SqL.of B.rc)) (by rw [List.length_map])) (av_cons (v_meth0 (val_var rfl) hp m_py_last_received fun Q q => ⟨l, m.party cl, rfl, B, q⟩) av_nil)))))) fun r hr => ?_
    exact k.here hr
theorem ok_get_restart_values {f : Addr} {fd : FuncData} (F : Fun K "get_restart_values" "get_restart_values" s_get_restart_values f fd) (T : Txt K mg c) (D_Disk_held : MethOk P w K mg base c.dk "held" 1 ["self"] (sp_Disk_held K c)) : FnOk P w K mg base CX0 2 f fd ["world"] (sp_get_restart_values K c) := by
  refine F.ok sc_get_restart_values (fun vs H Q E h => ?_) (fun cdv A outer s H vs Q E hr h => ?_)
  · obtain ⟨L, m, rfl, A, hz, k⟩ := h
    rfl
  obtain ⟨L, m, rfl, A, hz, k⟩ := h
  refine ⟨_, (pss_cons (ps_set (i := 1) sc_get_restart_values.nd rfl (Or.inl rfl) (pe_methD0 (pe_fld (pe_fld (pv 0) rfl) rfl) T.c_dk D_Disk_held (hr.mono (by decide))))
      (pss_one (ps_ret (pe_op op_cat (pe_lst (pa_cons (pe_callB call_len_seq (by rfl) T.z_len PySem.boot_len (pa_cons (pv 1) pa_nil)) pa_nil)) (pv 1))))), ?_⟩
  obtain ⟨dd, hd⟩ := A.sv.dk.ob
  refine q_xset (x_meth0 (v_sv_disk T A.sv (v_wd_service T A (val_var rfl))) hd m_dk_held ?_)
  refine ⟨L.sl.d, L.sl.u, m.srv.disk, rfl, A.sv.dk, Nat.lt_trans hz (by decide), fun H1 p s1 hp hi => ?_⟩
  refine x_ret (x_op (x_lst (av_cons (v_lenI (val_var rfl) hi) av_nil) fun q hq => ?_))
  have npq : p ≠ q := ne_of_none hi hq
  refine val_var rfl _ ⟨q, p, _, _, rfl, rfl, upd_same, by rw [upd_ne npq]; exact hi, ?_, fun r hr => ?_⟩
  · rw [List.length_map]
    show 1 + (m.srv.disk.unf.length + 1) ≤ _
    exact Nat.le_trans (show _ ≤ 1000000 by omega) (by decide)
  · refine k _ r ((s1.trans (same_new hq)).trans (same_new hr)) (s1.free ((same_new hq).free hr)) ?_
    unfold Ints
    rw [upd_same]
    rfl
/-- the trace's row as it is unpacked -/
theorem hist_step {m : MWorld} {i : Nat} {r : M6} (h : m.trace[i]? = some r) : (m.trace.take (i + 1)).filterMap histOf = (m.trace.take i).filterMap histOf ++ (histOf r).toList := by
  rw [List.take_add_one, h, Option.toList_some, List.filterMap_append]
  cases e : histOf r <;> simp [e]
theorem turn_step {m : MWorld} {i : Nat} {r : M6} (h : m.trace[i]? = some r) : (m.trace.take (i + 1)).filterMap turnedOf = (m.trace.take i).filterMap turnedOf ++ (turnedOf r).toList := by
  rw [List.take_add_one, h, Option.toList_some, List.filterMap_append]
  cases e : turnedOf r <;> simp [e]
theorem ok_history {f : Addr} {fd : FuncData} (F : Fun K "history" "history" s_history f fd) (T : Txt K mg c) : FnOk P w K mg base CX0 1 f fd ["world"] (sp_history K c) := by
  refine F.ok sc_history (fun vs H Q E h => ?_) (fun cdv A outer s H vs Q E hr h => ?_)
  · obtain ⟨L, m, rfl, A, hz, k⟩ := h
    rfl
  obtain ⟨L, m, rfl, A, hz, k⟩ := h
  refine ⟨_, (pss_cons (ps_set (i := 1) sc_history.nd rfl (Or.inl rfl) (pe_lst pa_nil))
      (pss_cons (ps_for PassesOwn.never rfl (pi_list (pe_fld (pv 0) rfl)) (pg_tup rfl (pgs_cons (pg_name (i := 2) sc_history.nd rfl (Or.inl rfl)) (pgs_cons (pg_name (i := 3) sc_history.nd rfl (Or.inl rfl)) (pgs_cons (pg_name (i := 4) sc_history.nd rfl (Or.inl rfl)) (pgs_cons (pg_name (i := 5) sc_history.nd rfl (Or.inl rfl)) (pgs_cons (pg_name (i := 6) sc_history.nd rfl (Or.inl rfl)) (pgs_cons (pg_name (i := 7) sc_history.nd rfl (Or.inl rfl)) pgs_nil))))))) (pss_one (ps_if (pt_cmpR op_eq (pv 2) (pe_gc T.g_REQUESTED_looks) (nomark _)) (pss_one (ps_expr (pe_bm PySem.F.plainAttrs_list PySem.F.slot_list_append PySem.F.type_list_append mt_append (pv 1) (pa_cons (pe_tup (pa_cons pe_int (pa_cons (pv 4) (pa_cons (pv 5) (pa_cons (pv 6) (pa_cons pe_int pa_nil)))))) pa_nil)))) (pss_one (ps_if (pt_cmpR op_eq (pv 2) (pe_gc T.g_RECEIVED_looks) (nomark _)) (pss_one (ps_expr (pe_bm PySem.F.plainAttrs_list PySem.F.slot_list_append PySem.F.type_list_append mt_append (pv 1) (pa_cons (pe_tup (pa_cons pe_int (pa_cons (pv 4) (pa_cons (pv 5) (pa_cons (pv 6) (pa_cons (pv 7) pa_nil)))))) pa_nil)))) pss_nil)))))
      (pss_one (ps_ret (pv 1))))), ?_⟩
  obtain ⟨ts, htr, htt⟩ := id A.tr
  refine q_xset (x_lst av_nil fun q hq => ?_)
  have m1 : Mv [] H [q] (upd H q (.lst [])) := .laid hq
  have hq1 : upd H q (.lst []) q = some (.lst ([] : List V)) := upd_same
  have A1 := A.same (m1.same)
  have htr1 := m1.same _ _ htr
  have htt1 := m1.tups htt
  have nq : L.t ≠ q := ne_of_none htr hq
  generalize upd H q (.lst []) = H1 at *
  refine tFor_list (v_wd_trace T A1 (val_var rfl)) (SqL.of htr1) (fun i σ' H' => ∃ v1 v2 v3 v4 v5 v6, σ' = [some (.ref L.w), some (.ref q), v1, v2, v3, v4, v5, v6] ∧ RowsAt H' q (((m.trace.take i).filterMap histOf).map M5.row) ∧ Mv [q] H1 [q] H')
    ⟨none, none, none, none, none, none, rfl, ⟨[], hq1, .nil⟩, .refl _ _⟩ ?_ ?_ ?_
  · rintro i σ' H' _ ⟨_, _, _, _, _, _, rfl, _, mv⟩
    exact SqL.of (mv.get htr1 (by simpa using nq))
  · rintro i x σ' H' hx ⟨_, _, _, _, _, _, rfl, R, mv⟩
    have hi : i < m.trace.length := by
      have z := (List.getElem?_eq_some_iff.mp hx).1
      rw [List.length_map, htt1.len, List.length_map] at z
      exact z
    obtain ⟨r, hr⟩ : ∃ r, m.trace[i]? = some r := ⟨_, List.getElem?_eq_getElem hi⟩
    obtain ⟨a, ha, hat⟩ := htt1.get (i := i) (r := r.row) (by rw [List.getElem?_map, hr]; rfl)
    have hxa : x = .ref a := by
      rw [List.getElem?_map, ha] at hx
      exact (Option.some.inj hx).symm
    subst hxa
    rw [hist_step hr, List.map_append]
    have hlen : (((m.trace.take i).filterMap histOf).map M5.row).length < 1000000 := by
      rw [List.length_map]
      have z1 := List.length_filterMap_le histOf (m.trace.take i)
      rw [List.length_take] at z1
      omega
    refine ⟨a, _, rfl, SqT.of (mv.tup hat), rfl, _, _, rfl, _, _, rfl, _, _, rfl, _, _, rfl, _, _, rfl, _, _, rfl, rfl, ?_⟩
    refine s_if (a_val (v_eq (i := r.k) (val_var rfl) val_c)) (fun h => ?_) (fun h => ?_)
    · have e : r.k = 0 := of_decide_eq_true h
      rw [show histOf r = some ⟨0, r.c, r.b, r.n, 0⟩ from if_pos e]
      exact s_push (row := (M5.mk 0 r.c r.b r.n 0).row) (val_var rfl) R (av_cons val_c (av_cons (val_var rfl) (av_cons (val_var rfl) (av_cons (val_var rfl) (av_cons val_c av_nil))))) hlen fun H3 R3 mv3 => ⟨_, _, _, _, _, _, rfl, R3, mv.trans mv3⟩
    · have e : ¬ r.k = 0 := of_decide_eq_false h
      refine s_if (a_val (v_eq (i := r.k) (val_var rfl) val_c)) (fun h2 => ?_) (fun h2 => ?_)
      · have e2 : r.k = 4 := of_decide_eq_true h2
        rw [show histOf r = some ⟨1, r.c, r.b, r.n, r.s⟩ from (if_neg e).trans (if_pos e2)]
        exact s_push (row := (M5.mk 1 r.c r.b r.n r.s).row) (val_var rfl) R (av_cons val_c (av_cons (val_var rfl) (av_cons (val_var rfl) (av_cons (val_var rfl) (av_cons (val_var rfl) av_nil))))) hlen fun H3 R3 mv3 => ⟨_, _, _, _, _, _, rfl, R3, mv.trans mv3⟩
      · have e2 : ¬ r.k = 4 := of_decide_eq_false h2
        rw [show histOf r = none from (if_neg e).trans (if_neg e2)]
        refine ⟨_, _, _, _, _, _, rfl, ?_, mv⟩
        simpa using R
  · rintro σ' H' ⟨_, _, _, _, _, _, rfl, R, mv⟩
    rw [List.take_of_length_le (by rw [List.length_map, htt1.len, List.length_map]; exact Nat.le_refl _)] at R
    exact st_ret (val_var rfl) (k H' q (m1.trans mv).same hq R)
end
end Tz
namespace Tz
open PySem PySem.Spec PyProof.Rows L2
section
variable {P : Program} {w : World} {K : PySem.W.Frag} {mg : Str → Option Value} {base : Heap} {c : CA}
variable {σ : L2.St} {H : Hp} {L : WL} {m : MWorld} {tt : TA} {ta : TE} {E : XK}
theorem ok_order {f : Addr} {fd : FuncData} (F : Fun K "order" "order" s_order f fd) (T : Txt K mg c) : FnOk P w K mg base CX0 1 f fd ["world"] (sp_order K c) := by
  refine F.ok sc_order (fun vs H Q E h => ?_) (fun cdv A outer s H vs Q E hr h => ?_)
  · obtain ⟨L, m, rfl, A, hz, k⟩ := h
    rfl
  obtain ⟨L, m, rfl, A, hz, k⟩ := h
  refine ⟨_, (pss_cons (ps_set (i := 1) sc_order.nd rfl (Or.inl rfl) (pe_lst pa_nil))
      (pss_cons (ps_for PassesOwn.never rfl (pi_list (pe_fld (pv 0) rfl)) (pg_tup rfl (pgs_cons (pg_name (i := 3) sc_order.nd rfl (Or.inl rfl)) (pgs_cons (pg_name (i := 4) sc_order.nd rfl (Or.inl rfl)) (pgs_cons (pg_name (i := 5) sc_order.nd rfl (Or.inl rfl)) (pgs_cons (pg_name (i := 6) sc_order.nd rfl (Or.inl rfl)) (pgs_cons (pg_name (i := 7) sc_order.nd rfl (Or.inl rfl)) (pgs_cons (pg_name (i := 8) sc_order.nd rfl (Or.inl rfl)) pgs_nil))))))) (pss_one (ps_if (pt_cmpR op_eq (pv 3) (pe_gc T.g_RECEIVED_looks) (nomark _)) (pss_one (ps_expr (pe_bm PySem.F.plainAttrs_list PySem.F.slot_list_append PySem.F.type_list_append mt_append (pv 1) (pa_cons (pe_tup (pa_cons (pv 8) (pa_cons (pv 5) (pa_cons (pv 6) (pa_cons (pv 7) pa_nil))))) pa_nil)))) pss_nil)))
      (pss_cons (ps_set (i := 2) sc_order.nd rfl (Or.inl rfl) (pe_lst pa_nil))
      (pss_cons (ps_for PassesOwn.never rfl (pi_list (pe_callB (cr_sorted4 hr.units) (by rfl) T.z_sorted (by decide +kernel) (pa_cons (pv 1) pa_nil))) (pg_tup rfl (pgs_cons (pg_name (i := 8) sc_order.nd rfl (Or.inl rfl)) (pgs_cons (pg_name (i := 5) sc_order.nd rfl (Or.inl rfl)) (pgs_cons (pg_name (i := 6) sc_order.nd rfl (Or.inl rfl)) (pgs_cons (pg_name (i := 7) sc_order.nd rfl (Or.inl rfl)) pgs_nil))))) (pss_one (ps_expr (pe_bm PySem.F.plainAttrs_list PySem.F.slot_list_append PySem.F.type_list_append mt_append (pv 2) (pa_cons (pe_tup (pa_cons (pv 5) (pa_cons (pv 6) (pa_cons (pv 7) (pa_cons (pv 8) pa_nil))))) pa_nil)))))
      (pss_one (ps_ret (pv 2))))))), ?_⟩
  obtain ⟨ts, htr, htt⟩ := id A.tr
  refine q_xset (x_lst av_nil fun q hq => ?_)
  have m1 : Mv [] H [q] (upd H q (.lst [])) := .laid hq
  have hq1 : upd H q (.lst []) q = some (.lst ([] : List V)) := upd_same
  have A1 := A.same (m1.same)
  have htr1 := m1.same _ _ htr
  have htt1 := m1.tups htt
  have nq : L.t ≠ q := ne_of_none htr hq
  generalize upd H q (.lst []) = H1 at *
  refine tFor_list (v_wd_trace T A1 (val_var rfl)) (SqL.of htr1) (fun i σ' H' => ∃ v1 v2 v3 v4 v5 v6, σ' = [some (.ref L.w), some (.ref q), none, v1, v2, v3, v4, v5, v6] ∧ RowsAt H' q (((m.trace.take i).filterMap turnedOf).map M4.key) ∧ Mv [q] H1 [q] H')
    ⟨none, none, none, none, none, none, rfl, ⟨[], hq1, .nil⟩, .refl _ _⟩ ?_ ?_ ?_
  · rintro i σ' H' _ ⟨_, _, _, _, _, _, rfl, _, mv⟩
    exact SqL.of (mv.get htr1 (by simpa using nq))
  · rintro i x σ' H' hx ⟨_, _, _, _, _, _, rfl, R, mv⟩
    have hi : i < m.trace.length := by
      have z := (List.getElem?_eq_some_iff.mp hx).1
      rw [List.length_map, htt1.len, List.length_map] at z
      exact z
    obtain ⟨r, hr⟩ : ∃ r, m.trace[i]? = some r := ⟨_, List.getElem?_eq_getElem hi⟩
    obtain ⟨a, ha, hat⟩ := htt1.get (i := i) (r := r.row) (by rw [List.getElem?_map, hr]; rfl)
    have hxa : x = .ref a := by
      rw [List.getElem?_map, ha] at hx
      exact (Option.some.inj hx).symm
    subst hxa
    rw [turn_step hr, List.map_append]
    have hlen : (((m.trace.take i).filterMap turnedOf).map M4.key).length < 1000000 := by
      rw [List.length_map]
      have z1 := List.length_filterMap_le turnedOf (m.trace.take i)
      rw [List.length_take] at z1
      omega
    refine ⟨a, _, rfl, SqT.of (mv.tup hat), rfl, _, _, rfl, _, _, rfl, _, _, rfl, _, _, rfl, _, _, rfl, _, _, rfl, rfl, ?_⟩
    refine s_if (a_val (v_eq (i := r.k) (val_var rfl) val_c)) (fun h2 => ?_) (fun h2 => ?_)
    · have e2 : r.k = 4 := of_decide_eq_true h2
      rw [show turnedOf r = some ⟨r.s, r.c, r.b, r.n⟩ from if_pos e2]
      exact s_push (row := (M4.mk r.s r.c r.b r.n).key) (val_var rfl) R (av_cons (val_var rfl) (av_cons (val_var rfl) (av_cons (val_var rfl) (av_cons (val_var rfl) av_nil)))) hlen fun H3 R3 mv3 => ⟨_, _, _, _, _, _, rfl, R3, mv.trans mv3⟩
    · have e2 : ¬ r.k = 4 := of_decide_eq_false h2
      rw [show turnedOf r = none from if_neg e2]
      refine ⟨_, _, _, _, _, _, rfl, ?_, mv⟩
      simpa using R
  · rintro σ' H2 ⟨v1, v2, v3, v4, v5, v6, rfl, R, mv⟩
    rw [List.take_of_length_le (by rw [List.length_map, htt1.len, List.length_map]; exact Nat.le_refl _)] at R
    have s2 := (m1.trans mv).same
    generalize hbs : m.trace.filterMap turnedOf = bs at R
    have hbl : bs.length < 500000 := by
      rw [← hbs]
      exact Nat.lt_of_le_of_lt (List.length_filterMap_le _ _) hz
    have eo : m.order = bs.mergeSort M4.le := by
      unfold MWorld.order
      rw [hbs]
    obtain ⟨as, hqa, hqt⟩ := R
    refine q_xset (x_lst av_nil fun r0 hr0 => ?_)
    have m3 : Mv [] H2 [r0] (upd H2 r0 (.lst [])) := .laid hr0
    have hr1 : upd H2 r0 (.lst []) r0 = some (.lst ([] : List V)) := upd_same
    have hqa3 := m3.same _ _ hqa
    have hqt3 := m3.tups hqt
    have hH0 := s2.free hr0
    generalize upd H2 r0 (.lst []) = H3 at *
    refine q_forX (x_cb (av_cons (val_var rfl) av_nil) ⟨q, as, bs, rfl, hqa3, hqt3, fun as' p ht' hp => ?_⟩) (fun Q Q' hQ ht => ?_)
    · refine ⟨p, as'.map V.ref, rfl, SqL.of upd_same, ?_⟩
      have npr : r0 ≠ p := ne_of_none hr1 hp
      have hr4 : upd H3 p (.lst (as'.map V.ref)) r0 = some (.lst ([] : List V)) := by
        rw [upd_ne npr]
        exact hr1
      have hp4 : upd H3 p (.lst (as'.map V.ref)) p = some (.lst (as'.map V.ref)) := upd_same
      have ht4 := Tz.Same.tups (same_new (o := .lst (as'.map V.ref)) hp) ht'
      have s4 : Same H3 (upd H3 p (.lst (as'.map V.ref))) := same_new hp
      generalize upd H3 p (.lst (as'.map V.ref)) = H4 at *
      refine ⟨fun i σ' H' => ∃ v1 v2 v3 v4 v5 v6, σ' = [some (.ref L.w), some (.ref q), some (.ref r0), v1, v2, v3, v4, v5, v6] ∧ RowsAt H' r0 ((m.order.take i).map M4.row) ∧ Mv [r0] H4 [r0] H', ⟨_, _, _, _, _, _, rfl, ⟨[], hr4, .nil⟩, .refl _ _⟩, ?_, ?_, ?_⟩
      · rintro i σ' H' _ ⟨_, _, _, _, _, _, rfl, _, mv4⟩
        exact SqL.of (mv4.get hp4 (by simpa using npr.symm))
      · rintro i y σ' H' hy ⟨_, _, _, _, _, _, rfl, R4, mv4⟩
        have hi : i < m.order.length := by
          have z := (List.getElem?_eq_some_iff.mp hy).1
          rw [List.length_map, ht4.len, List.length_map] at z
          rw [eo]
          exact z
        obtain ⟨e, he⟩ : ∃ e, m.order[i]? = some e := ⟨_, List.getElem?_eq_getElem hi⟩
        obtain ⟨a, ha, hat⟩ := ht4.get (i := i) (r := e.key) (by rw [List.getElem?_map, ← eo, he]; rfl)
        have hya : y = .ref a := by
          rw [List.getElem?_map, ha] at hy
          exact (Option.some.inj hy).symm
        subst hya
        have hlen : ((m.order.take i).map M4.row).length < 1000000 := by
          rw [List.length_map, List.length_take, eo, List.length_mergeSort]
          omega
        refine ⟨a, _, rfl, SqT.of (mv4.tup hat), rfl, _, _, rfl, _, _, rfl, _, _, rfl, _, _, rfl, rfl, ?_⟩
        refine s_push (row := e.row) (val_var rfl) R4 (av_cons (val_var rfl) (av_cons (val_var rfl) (av_cons (val_var rfl) (av_cons (val_var rfl) av_nil)))) hlen fun H5 R5 mv5 => ⟨_, _, _, _, _, _, rfl, ?_, mv4.trans mv5⟩
        rw [List.take_add_one, he, Option.toList_some, List.map_append]
        exact R5
      · rintro σ' H' ⟨_, _, _, _, _, _, rfl, R4, mv4⟩
        rw [List.take_of_length_le (by rw [List.length_map, ht4.len, List.length_map, eo]; exact Nat.le_refl _)] at R4
        refine st_ret (val_var rfl) (k H' r0 (s2.trans ?_) hH0 R4)
        exact ((m3.grow s4 (S2 := [r0]) fun b hb => .inl hb).trans mv4).same
    · obtain ⟨v, hv, a', as2, bs2, e1, e2, e3, e4⟩ := ht
      exact ⟨v, hv, a', as2, bs2, e1, e2, e3, fun as' p z1 z2 => hQ _ _ (e4 as' p z1 z2)⟩
theorem ok_get_statistics {f : Addr} {fd : FuncData} (F : Fun K "get_statistics" "get_statistics" s_get_statistics f fd) (T : Txt K mg c) : FnOk P w K mg base CX0 1 f fd ["world"] (sp_get_statistics K c) := by
  refine F.ok sc_get_statistics (fun vs H Q E h => ?_) (fun cdv A outer s H vs Q E hr h => ?_)
  · obtain ⟨L, m, rfl, A, hk, k⟩ := h
    rfl
  obtain ⟨L, m, rfl, A, hk, k⟩ := h
  refine ⟨_, (pss_cons (ps_setLc (i := 1) (own := [("kind", 4)]) (g := gName 4) (tt := tYes) rfl sc_get_statistics.nd rfl rfl (sw_true rfl rfl rfl (by decide +kernel)) (pi_range1 (by rfl) T.z_range (pa_cons (pe_gc T.g_KINDS) pa_nil)) (blkOk_by (own := [("kind", 4)]) (N := n_get_statistics) (sc := defScope s_get_statistics) (by decide +kernel)) (fun _ _ _ _ _ => pg_name (i := 4) sc_get_statistics.nd rfl (Or.inl rfl)) (fun _ _ _ _ _ => pts_nil) (fun _ _ _ _ _ => pe_int))
      (pss_cons (ps_set (i := 2) sc_get_statistics.nd rfl (Or.inl rfl) pe_int)
      (pss_cons (ps_for PassesOwn.never rfl (pi_list (pe_fld (pv 0) rfl)) (pg_name (i := 3) sc_get_statistics.nd rfl (Or.inl rfl)) (pss_cons (ps_set (i := 4) sc_get_statistics.nd rfl (Or.inl rfl) (pe_ix ix_tup (pv 3) pe_int (fun _ _ => rfl)))
      (pss_cons (ps_asg (pe_op op_add (pe_ix ix_list (pv 1) (pv 4) (fun _ _ => rfl)) pe_int) (pg_sub (pv 1) (pv 4) set_list))
      (pss_one (ps_if (pt_cmpR op_eq (pv 4) (pe_gc T.g_SENT_looks) (nomark _)) (pss_one (ps_set (i := 2) sc_get_statistics.nd rfl (Or.inl rfl) (pe_callB (call_max2 rfl) (by rfl) T.z_max (by decide +kernel) (pa_cons (pv 2) (pa_cons (pe_ix ix_tup (pv 3) pe_int (fun _ _ => rfl)) pa_nil))))) pss_nil)))))
      (pss_one (ps_ret (pe_op op_cat (pv 1) (pe_lst (pa_cons (pv 2) pa_nil)))))))), ?_⟩
  obtain ⟨ts, htr, htt⟩ := id A.tr
  refine q_xset (x_lc_rep (n := 7) (v := .int 0) val_c (by decide) (fun _ _ => val_c) (fun _ => rfl) fun q hq => ?_)
  have m1 : Mv [] H [q] (upd H q (.lst (List.replicate 7 (V.int 0)))) := .laid hq
  have hq1 : upd H q (.lst (List.replicate 7 (V.int 0))) q = some (.lst ((List.replicate 7 (0 : Int)).map V.int)) := by
    rw [upd_same]
    rfl
  have A1 := A.same (m1.same)
  have htr1 := m1.same _ _ htr
  have htt1 := m1.tups htt
  have nq : L.t ≠ q := ne_of_none htr hq
  generalize upd H q (.lst (List.replicate 7 (V.int 0))) = H1 at *
  refine q_set val_c ?_
  refine tFor_list (v_wd_trace T A1 (val_var rfl)) (SqL.of htr1) (fun i σ' H' => ∃ v1 v2, σ' = [some (.ref L.w), some (.ref q), some (.int ((m.trace.take i).foldl statOn (List.replicate 7 0, 0)).2), v1, v2] ∧ H' q = some (.lst (((m.trace.take i).foldl statOn (List.replicate 7 0, 0)).1.map V.int)) ∧
    ((m.trace.take i).foldl statOn (List.replicate 7 0, 0)).1.length = 7 ∧ Mv [q] H1 [q] H') ⟨none, none, rfl, hq1, rfl, .refl _ _⟩ ?_ ?_ ?_
  · rintro i σ' H' _ ⟨_, _, rfl, _, _, mv⟩
    exact SqL.of (mv.get htr1 (by simpa using nq))
  · rintro i x σ' H' hx ⟨v1, v2, rfl, hc, hc7, mv⟩
    have hi : i < m.trace.length := by
      have z := (List.getElem?_eq_some_iff.mp hx).1
      rw [List.length_map, htt1.len, List.length_map] at z
      exact z
    obtain ⟨r, hr⟩ : ∃ r, m.trace[i]? = some r := ⟨_, List.getElem?_eq_getElem hi⟩
    obtain ⟨a, ha, hat⟩ := htt1.get (i := i) (r := r.row) (by rw [List.getElem?_map, hr]; rfl)
    have hxa : x = .ref a := by
      rw [List.getElem?_map, ha] at hx
      exact (Option.some.inj hx).symm
    subst hxa
    have more : (m.trace.take (i + 1)).foldl statOn (List.replicate 7 0, 0) = statOn ((m.trace.take i).foldl statOn (List.replicate 7 0, 0)) r := by
      rw [List.take_add_one, hr, Option.toList_some, List.foldl_append]
      rfl
    rw [more]
    generalize (m.trace.take i).foldl statOn (List.replicate 7 0, 0) = y at *
    obtain ⟨hk0, hk7⟩ := hk r (List.mem_of_getElem? hr)
    obtain ⟨kn, hkn⟩ : ∃ kn : Nat, r.k = (kn : Int) := ⟨r.k.toNat, by omega⟩
    have hlt : kn < y.1.length := by omega
    obtain ⟨old, hold⟩ : ∃ old, y.1[kn]? = some old := ⟨_, List.getElem?_eq_getElem hlt⟩
    have ht2 := mv.tup hat
    have nqa : a ≠ q := by
      intro z
      rw [z, hc] at ht2
      cases ht2
    have est : statOn y r = (y.1.set kn (old + 1), if r.k = 3 then (if y.2 < r.s then r.s else y.2) else y.2) := by
      unfold statOn
      rw [show r.k.toNat = kn by omega, hold]
      rfl
    rw [est]
    refine q_set (v_ixT (val_var rfl) val_c (SqT.of ht2) (get_atI (v := .int r.k) (k := 0) rfl rfl)) ?_
    refine q_setAt (k := kn) (w := old + 1) (v_add (v_at (i := kn) (val_var rfl) (v_to (x := .int (kn : Int)) (val_var rfl) (by rw [← hkn])) hc hold) val_c) (val_var rfl) (v_to (x := .int (kn : Int)) (val_var rfl) (by rw [← hkn])) hc hlt ?_
    have mv2 := mv.setL (o := .lst ((y.1.set kn (old + 1)).map V.int)) (by simp) hc
    have hc2 : upd H' q (.lst ((y.1.set kn (old + 1)).map V.int)) q = some (.lst ((y.1.set kn (old + 1)).map V.int)) := upd_same
    have ht3 : upd H' q (.lst ((y.1.set kn (old + 1)).map V.int)) a = some (.tup (r.row.map V.int)) := by
      rw [upd_ne nqa]
      exact ht2
    generalize upd H' q (.lst ((y.1.set kn (old + 1)).map V.int)) = H2 at *
    refine s_if (a_val (v_eq (i := r.k) (val_var rfl) val_c)) (fun h2 => ?_) (fun h2 => ?_)
    · rw [if_pos (of_decide_eq_true h2)]
      refine st_set (v_max2 (val_var rfl) (v_ixT (val_var rfl) val_c (SqT.of ht3) (get_atI (v := .int r.s) (k := 5) rfl rfl))) ?_
      exact ⟨_, _, rfl, hc2, by rw [List.length_set]; exact hc7, mv2⟩
    · rw [if_neg (of_decide_eq_false h2)]
      exact ⟨_, _, rfl, hc2, by rw [List.length_set]; exact hc7, mv2⟩
  · rintro σ' H' ⟨v1, v2, rfl, hc, hc7, mv⟩
    rw [List.take_of_length_le (by rw [List.length_map, htt1.len, List.length_map]; exact Nat.le_refl _)] at hc hc7 ⊢
    have s2 := (m1.trans mv).same
    refine x_ret (x_op (val_var rfl _ (x_lst (av_cons (val_var rfl) av_nil) fun p hp => ?_)))
    have npq : q ≠ p := ne_of_none hc hp
    refine ⟨q, p, _, _, rfl, rfl, by rw [upd_ne npq]; exact hc, upd_same, ?_, fun r hr => ?_⟩
    · rw [List.length_map, hc7]
      show 7 + 1 ≤ sizeLine
      decide
    · refine k _ r ((s2.trans (same_new hp)).trans (same_new hr)) (s2.free ((same_new hp).free hr)) ?_
      unfold Ints
      rw [upd_same]
      show _ = some (HO.lst ((_ ++ [_]).map V.int))
      rw [List.map_append]
      rfl
end
end Tz
namespace Tz
open PySem PySem.Spec PyProof.Rows L2
/-! ### histories and the judge -/
abbrev Ev (H : Hp) (p : Addr) (es : List M5) : Prop := RowsAt H p (es.map M5.row)
def sp_is_event (K : PySem.W.Frag) (c : CA) : Sp := fun vs H Q _ => ∃ (k c b n s : Int), vs = [.int k, .int c, .int b, .int n, .int s] ∧ Q (.bl (isEvent k c b n s)) H
def sp_is_event_list (K : PySem.W.Frag) (c : CA) : Sp := fun vs H Q _ => ∃ (p : Addr) (xs : List Int), vs = [.ref p] ∧ H p = some (.lst (xs.map V.int)) ∧ xs.length < 100000 ∧ Q (.bl (isEventList xs)) H
def sp_events_of (K : PySem.W.Frag) (c : CA) : Sp := fun vs H Q _ => ∃ (p : Addr) (xs : List Int), vs = [.ref p] ∧ H p = some (.lst (xs.map V.int)) ∧ xs.length < 100000 ∧ xs.length % 5 = 0 ∧ NewR H ((fives xs).map M5.row) Q
def sp_last_request (K : PySem.W.Frag) (c : CA) : Sp := fun vs H Q _ => ∃ (p : Addr) (es : List M5) (at' : Nat) (cl : Int), vs = [.ref p, .int (at' : Int), .int cl] ∧ Ev H p es ∧ at' ≤ es.length ∧ es.length < 100000 ∧ Q (.int (lastRequest es cl at')) H
def sp_is_unanswered (K : PySem.W.Frag) (c : CA) : Sp := fun vs H Q _ => ∃ (p : Addr) (es : List M5) (at' last : Nat), vs = [.ref p, .int (at' : Int), .int (last : Int)] ∧ Ev H p es ∧ at' ≤ es.length ∧ last < at' ∧ es.length < 100000 ∧ Q (.bl (isUnanswered es at' last)) H
def sp_was_received (K : PySem.W.Frag) (c : CA) : Sp := fun vs H Q _ => ∃ (p : Addr) (es : List M5) (at' : Nat) (s : Int), vs = [.ref p, .int (at' : Int), .int s] ∧ Ev H p es ∧ at' ≤ es.length ∧ es.length < 100000 ∧ Q (.bl (wasReceived es at' s)) H
def sp_highest_received (K : PySem.W.Frag) (c : CA) : Sp := fun vs H Q _ => ∃ (p : Addr) (es : List M5) (at' : Nat), vs = [.ref p, .int (at' : Int)] ∧ Ev H p es ∧ at' ≤ es.length ∧ es.length < 100000 ∧ Q (.int (highestReceived es at')) H
def sp_is_right_request (K : PySem.W.Frag) (c : CA) : Sp := fun vs H Q _ => ∃ (p : Addr) (es : List M5) (at' : Nat), vs = [.ref p, .int (at' : Int)] ∧ Ev H p es ∧ at' < es.length ∧ es.length < 100000 ∧ Q (.bl (isRightRequest es at')) H
def sp_fault_of_receipt (K : PySem.W.Frag) (c : CA) : Sp := fun vs H Q _ => ∃ (p : Addr) (es : List M5) (at' : Nat), vs = [.ref p, .int (at' : Int)] ∧ Ev H p es ∧ at' < es.length ∧ es.length < 100000 ∧ Q (.int (faultOfReceipt es at')) H
def sp_fault_of (K : PySem.W.Frag) (c : CA) : Sp := fun vs H Q _ => ∃ (p : Addr) (es : List M5) (at' : Nat), vs = [.ref p, .int (at' : Int)] ∧ Ev H p es ∧ at' < es.length ∧ es.length < 100000 ∧ Q (.int (faultOf es at')) H
def sp_verdict (K : PySem.W.Frag) (c : CA) : Sp := fun vs H Q _ => ∃ (p : Addr) (es : List M5), vs = [.ref p] ∧ Ev H p es ∧ es.length < 100000 ∧ NewI H (verdict es) Q
def sp_judge (K : PySem.W.Frag) (c : CA) : Sp := fun vs H Q _ => ∃ (p : Addr) (xs : List Int), vs = [.ref p] ∧ H p = some (.lst (xs.map V.int)) ∧ xs.length < 100000 ∧ NewI H (judge xs) Q
/-! ### fives -/
theorem fives_get : ∀ (l : List Int) (d : Nat) (k c b n s : Int), l[5 * d]? = some k → l[5 * d + 1]? = some c → l[5 * d + 2]? = some b → l[5 * d + 3]? = some n → l[5 * d + 4]? = some s → (fives l)[d]? = some ⟨k, c, b, n, s⟩
  | [], d, k, c, b, n, s, h, _, _, _, _ => by simp at h
  | [_], d, k, c, b, n, s, _, h, _, _, _ => by simp at h
  | [_, _], d, k, c, b, n, s, _, _, h, _, _ => by simp at h
  | [_, _, _], d, k, c, b, n, s, _, _, _, h, _ => by simp at h
  | [_, _, _, _], d, k, c, b, n, s, _, _, _, _, h => by simp at h
  | x1 :: x2 :: x3 :: x4 :: x5 :: r, 0, k, c, b, n, s, h1, h2, h3, h4, h5 => by
    simp at h1 h2 h3 h4 h5
    subst h1 h2 h3 h4 h5
    rfl
  | x1 :: x2 :: x3 :: x4 :: x5 :: r, d + 1, k, c, b, n, s, h1, h2, h3, h4, h5 => by
    show (fives r)[d]? = _
    have e : 5 * (d + 1) = 5 * d + 1 + 1 + 1 + 1 + 1 := by omega
    have e1 : 5 * (d + 1) + 1 = 5 * d + 1 + 1 + 1 + 1 + 1 + 1 := by omega
    have e2 : 5 * (d + 1) + 2 = 5 * d + 2 + 1 + 1 + 1 + 1 + 1 := by omega
    have e3 : 5 * (d + 1) + 3 = 5 * d + 3 + 1 + 1 + 1 + 1 + 1 := by omega
    have e4 : 5 * (d + 1) + 4 = 5 * d + 4 + 1 + 1 + 1 + 1 + 1 := by omega
    rw [e] at h1
    rw [e1] at h2
    rw [e2] at h3
    rw [e3] at h4
    rw [e4] at h5
    simp only [List.getElem?_cons_succ] at h1 h2 h3 h4 h5
    exact fives_get r d k c b n s h1 h2 h3 h4 h5
theorem fives_len : ∀ (l : List Int), l.length % 5 = 0 → l.length = 5 * (fives l).length
  | [], _ => rfl
  | [_], h => by simp at h
  | [_, _], h => by simp at h
  | [_, _, _], h => by simp at h
  | [_, _, _, _], h => by simp at h
  | x1 :: x2 :: x3 :: x4 :: x5 :: r, h => by
    have z := fives_len r (by simp only [List.length_cons] at h; omega)
    simp only [fives, List.length_cons]
    omega
/-- the d-th five -/
theorem five_at {xs : List Int} {d : Nat} (he : xs.length % 5 = 0) (hd : d < (xs.length + 5 - 1) / 5) : ∃ e : M5, xs[d * 5]? = some e.k ∧ xs[d * 5 + 1]? = some e.c ∧ xs[d * 5 + 2]? = some e.b ∧ xs[d * 5 + 3]? = some e.n ∧ xs[d * 5 + 4]? = some e.s ∧ (fives xs)[d]? = some e := by
  have h0 : d * 5 < xs.length := by omega
  have h1 : d * 5 + 1 < xs.length := by omega
  have h2 : d * 5 + 2 < xs.length := by omega
  have h3 : d * 5 + 3 < xs.length := by omega
  have h4 : d * 5 + 4 < xs.length := by omega
  refine ⟨⟨xs[d * 5], xs[d * 5 + 1], xs[d * 5 + 2], xs[d * 5 + 3], xs[d * 5 + 4]⟩, List.getElem?_eq_getElem h0, List.getElem?_eq_getElem h1, List.getElem?_eq_getElem h2, List.getElem?_eq_getElem h3, List.getElem?_eq_getElem h4, fives_get xs d _ _ _ _ _ ?_ ?_ ?_ ?_ ?_⟩
  all_goals (rw [Nat.mul_comm]; exact List.getElem?_eq_getElem _)
theorem min3 (a b d : Int) : ∃ z, nuMin3 (.int a) (.int b) (.int d) = some (.int z) ∧ (z < 0 ↔ a < 0 ∨ b < 0 ∨ d < 0) := by
  by_cases h1 : b < a
  · by_cases h2 : d < b
    · exact ⟨d, by simp [nuMin3, nuMin2, nuLt, nuCB, h1, h2], by omega⟩
    · exact ⟨b, by simp [nuMin3, nuMin2, nuLt, nuCB, h1, h2], by omega⟩
  · by_cases h2 : d < a
    · exact ⟨d, by simp [nuMin3, nuMin2, nuLt, nuCB, h1, h2], by omega⟩
    · exact ⟨a, by simp [nuMin3, nuMin2, nuLt, nuCB, h1, h2], by omega⟩
theorem max3 (a b d : Int) : ∃ z, nuMax3 (.int a) (.int b) (.int d) = some (.int z) ∧ (1000000000 < z ↔ 1000000000 < a ∨ 1000000000 < b ∨ 1000000000 < d) := by
  by_cases h1 : a < b
  · by_cases h2 : b < d
    · exact ⟨d, by simp [nuMax3, nuMax2, nuLt, nuCB, h1, h2], by omega⟩
    · exact ⟨b, by simp [nuMax3, nuMax2, nuLt, nuCB, h1, h2], by omega⟩
  · by_cases h2 : a < d
    · exact ⟨d, by simp [nuMax3, nuMax2, nuLt, nuCB, h1, h2], by omega⟩
    · exact ⟨a, by simp [nuMax3, nuMax2, nuLt, nuCB, h1, h2], by omega⟩
section
variable {P : Program} {w : World} {K : PySem.W.Frag} {mg : Str → Option Value} {base : Heap} {c : CA}
variable {σ : L2.St} {H : Hp} {tt : TA} {ta tb : TE} {E : XK}
theorem v_min3 {td : TE} {a b d z : Int} (ha : Val ta σ H (.int a)) (hb : Val tb σ H (.int b)) (hd : Val td σ H (.int d)) (hz : nuMin3 (.int a) (.int b) (.int d) = some (.int z)) : Val (tCB (rNuC3 nuMin3) (tCons ta (tCons tb (tCons td tNil)))) σ H (.int z) :=
  fun _ q => ha _ (hb _ (hd _ ⟨_, _, _, _, rfl, hz, q⟩))
theorem v_max3 {td : TE} {a b d z : Int} (ha : Val ta σ H (.int a)) (hb : Val tb σ H (.int b)) (hd : Val td σ H (.int d)) (hz : nuMax3 (.int a) (.int b) (.int d) = some (.int z)) : Val (tCB (rNuC3 nuMax3) (tCons ta (tCons tb (tCons td tNil)))) σ H (.int z) :=
  fun _ q => ha _ (hb _ (hd _ ⟨_, _, _, _, rfl, hz, q⟩))
theorem ok_is_event {f : Addr} {fd : FuncData} (F : Fun K "is_event" "is_event" s_is_event f fd) (T : Txt K mg c) : FnOk P w K mg base CX0 1 f fd ["kind", "client", "boot", "nonce", "stamp"] (sp_is_event K c) := by
  refine F.ok sc_is_event (fun vs H Q E h => ?_) (fun cdv A outer s H vs Q E hr h => ?_)
  · obtain ⟨k0, cl, b, n, s0, rfl, k⟩ := h
    rfl
  obtain ⟨k0, cl, b, n, s0, rfl, k⟩ := h
  refine ⟨_, (pss_cons (ps_if (PW.pt (pw_and (pt_cmpR op_ne (pv 0) (pe_gc T.g_REQUEST_histories) (nomark _)) (pw_and1 (pt_cmpR op_ne (pv 0) (pe_gc T.g_RECEIPT_histories) (nomark _))))) (pss_one (ps_ret pe_bl)) pss_nil)
      (pss_cons (ps_if (PW.pt (pw_or (pt_cmpR op_lt (pv 1) pe_int (nomark _)) (pw_or1 (pt_cmpR op_gt (pv 1) (pe_gc T.g_MOST_CLIENTS_histories) (nomark _))))) (pss_one (ps_ret pe_bl)) pss_nil)
      (pss_cons (ps_if (PW.pt (pw_or (pt_cmpR op_lt (pe_callB (call_min3Nu rfl) (by rfl) T.z_min (by decide +kernel) (pa_cons (pv 2) (pa_cons (pv 3) (pa_cons (pv 4) pa_nil)))) pe_int (nomark _)) (pw_or1 (pt_cmpR op_gt (pe_callB (call_max3Nu rfl) (by rfl) T.z_max (by decide +kernel) (pa_cons (pv 2) (pa_cons (pv 3) (pa_cons (pv 4) pa_nil)))) (pe_gc T.g_MOST_NUMBER) (nomark _))))) (pss_one (ps_ret pe_bl)) pss_nil)
      (pss_one (ps_ret (pe_or (pe_cmpR op_eq (pv 0) (pe_gc T.g_RECEIPT_histories) (nomark _)) (pe_one (pe_cmpR op_eq (pv 4) pe_int (nomark _))))))))), ?_⟩
  refine q_ifn (a_and (a_val (v_ne (val_var rfl) val_c)) fun _ => a_val (v_ne (val_var rfl) val_c)) (fun h => ?_) (fun h => ?_)
  · have e : k0 ≠ 0 ∧ k0 ≠ 1 := by simpa using h
    rw [show isEvent k0 cl b n s0 = false from if_pos e] at k
    exact st_ret val_c k
  · have e : ¬ (k0 ≠ 0 ∧ k0 ≠ 1) := by
      intro q
      simp [q.1, q.2] at h
    refine q_ifn (a_or (a_val (v_lt (val_var rfl) val_c)) fun _ => a_val (v_gt (val_var rfl) val_c)) (fun h2 => ?_) (fun h2 => ?_)
    · have e2 : cl < 1 ∨ 8 < cl := by simpa using h2
      rw [show isEvent k0 cl b n s0 = false from (if_neg e).trans (if_pos e2)] at k
      exact st_ret val_c k
    · have e2 : ¬ (cl < 1 ∨ 8 < cl) := by simpa using h2
      obtain ⟨z1, hz1, iz1⟩ := min3 b n s0
      obtain ⟨z2, hz2, iz2⟩ := max3 b n s0
      refine q_ifn (a_or (a_val (v_lt (v_min3 (val_var rfl) (val_var rfl) (val_var rfl) hz1) val_c)) fun _ => a_val (v_gt (v_max3 (val_var rfl) (val_var rfl) (val_var rfl) hz2) val_c)) (fun h3 => ?_) (fun h3 => ?_)
      · have e3 : (b < 0 ∨ n < 0 ∨ s0 < 0) ∨ (1000000000 < b ∨ 1000000000 < n ∨ 1000000000 < s0) := by
          rw [← iz1, ← iz2]
          simpa using h3
        rw [show isEvent k0 cl b n s0 = false from (if_neg e).trans ((if_neg e2).trans (if_pos e3))] at k
        exact st_ret val_c k
      · have e3 : ¬ ((b < 0 ∨ n < 0 ∨ s0 < 0) ∨ (1000000000 < b ∨ 1000000000 < n ∨ 1000000000 < s0)) := by
          rw [← iz1, ← iz2]
          simpa using h3
        rw [show isEvent k0 cl b n s0 = (decide (k0 = 1) || decide (s0 = 0)) from (if_neg e).trans ((if_neg e2).trans (if_neg e3))] at k
        exact st_ret (v_orV (v_eq (val_var rfl) val_c) fun _ => v_eq (val_var rfl) val_c) k
/-- the five values at a place -/
theorem av_five {xs : List Int} {p : Addr} {d : Nat} {e : M5} (ha : Val ta σ H (.ref p)) (hb : Val tb σ H (.int ((d * 5 : Nat) : Int))) (hl : H p = some (.lst (xs.map V.int)))
    (h : xs[d * 5]? = some e.k ∧ xs[d * 5 + 1]? = some e.c ∧ xs[d * 5 + 2]? = some e.b ∧ xs[d * 5 + 3]? = some e.n ∧ xs[d * 5 + 4]? = some e.s) :
    AV (tCons (tOp (rIxL K) ta tb) (tCons (tOp (rIxL K) ta (tOp (rI0 fun i j => .int (i + j)) tb (tC (.int 1)))) (tCons (tOp (rIxL K) ta (tOp (rI0 fun i j => .int (i + j)) tb (tC (.int 2)))) (tCons (tOp (rIxL K) ta (tOp (rI0 fun i j => .int (i + j)) tb (tC (.int 3))))
      (tCons (tOp (rIxL K) ta (tOp (rI0 fun i j => .int (i + j)) tb (tC (.int 4)))) tNil))))) σ H (e.row.map V.int) :=
  av_cons (v_at ha hb hl h.1) (av_cons (v_at (i := d * 5 + 1) ha (v_add hb val_c) hl h.2.1) (av_cons (v_at (i := d * 5 + 2) ha (v_add hb val_c) hl h.2.2.1) (av_cons (v_at (i := d * 5 + 3) ha (v_add hb val_c) hl h.2.2.2.1) (av_cons (v_at (i := d * 5 + 4) ha (v_add hb val_c) hl h.2.2.2.2) av_nil))))
theorem ok_is_event_list {f : Addr} {fd : FuncData} (F : Fun K "is_event_list" "is_event_list" s_is_event_list f fd) (T : Txt K mg c) (D_is_event : DefOk P w K mg base "is_event" 1 ["kind", "client", "boot", "nonce", "stamp"] (sp_is_event K c)) : FnOk P w K mg base CX0 2 f fd ["numbers"] (sp_is_event_list K c) := by
  refine F.ok sc_is_event_list (fun vs H Q E h => ?_) (fun cdv A outer s H vs Q E hr h => ?_)
  · obtain ⟨p, xs, rfl, hl, hz, k⟩ := h
    rfl
  obtain ⟨p, xs, rfl, hl, hz, k⟩ := h
  refine ⟨_, (pss_cons (ps_if (pt_cmpR op_ne (pe_op op_mod (pe_callB call_len_seq (by rfl) T.z_len PySem.boot_len (pa_cons (pv 0) pa_nil)) (pe_gc T.g_EVENT)) pe_int (nomark _)) (pss_one (ps_ret pe_bl)) pss_nil)
      (pss_cons (ps_for PassesOwn.never rfl (pi_range3 (by rfl) T.z_range (pa_cons pe_int (pa_cons (pe_callB call_len_seq (by rfl) T.z_len PySem.boot_len (pa_cons (pv 0) pa_nil)) (pa_cons (pe_gc T.g_EVENT) pa_nil)))) (pg_name (i := 1) sc_is_event_list.nd rfl (Or.inl rfl)) (pss_one (ps_if (pt_not (pt_val (pe_callD D_is_event (hr.mono (by decide)) (pa_cons (pe_ix ix_list (pv 0) (pv 1) (fun _ _ => rfl)) (pa_cons (pe_ix ix_list (pv 0) (pe_op op_add (pv 1) pe_int) (fun _ _ => rfl)) (pa_cons (pe_ix ix_list (pv 0) (pe_op op_add (pv 1) pe_int) (fun _ _ => rfl)) (pa_cons (pe_ix ix_list (pv 0) (pe_op op_add (pv 1) pe_int) (fun _ _ => rfl)) (pa_cons (pe_ix ix_list (pv 0) (pe_op op_add (pv 1) pe_int) (fun _ _ => rfl)) pa_nil)))))))) (pss_one (ps_ret pe_bl)) pss_nil)))
      (pss_one (ps_ret pe_bl)))), ?_⟩
  refine q_ifn (a_val (v_ne (v_mod (by decide) (v_lenI (val_var rfl) hl) val_c) val_c)) (fun h => ?_) (fun h => ?_)
  · have e : isEventList xs = false := by
      have h' : ¬ (xs.length : Int) % 5 = 0 := by simpa using h
      unfold isEventList
      rw [decide_eq_false (show ¬ xs.length % 5 = 0 by omega)]
      rfl
    rw [e] at k
    exact st_ret val_c k
  · have he : xs.length % 5 = 0 := by
      have h' : (xs.length : Int) % 5 = 0 := by simpa using h
      omega
    have e : isEventList xs = (fives xs).all M5.ok := by
      unfold isEventList
      rw [decide_eq_true he, Bool.true_and]
    rw [e] at k
    have hlen := fives_len xs he
    refine q_for3 (len := xs.length) (st := 5) val_c (v_lenI (val_var rfl) hl) val_c (by decide) (by decide) (by omega) (fun d σ' H' => ∃ v, σ' = [some (.ref p), v] ∧ H' = H ∧ ((fives xs).take d).all M5.ok = true) ⟨none, rfl, rfl, rfl⟩ ?_ ?_
    · rintro d σ' H' hd ⟨v, rfl, rfl, hall⟩
      obtain ⟨e, h0, h1, h2, h3, h4, hp⟩ := five_at he hd
      have key : ((fives xs).take (d + 1)).all M5.ok = e.ok := by
        rw [List.take_add_one, hp, List.all_append, hall]
        simp
      refine s_if (a_not (a_B (v_call (av_five (val_var rfl) (val_var rfl) hl ⟨h0, h1, h2, h3, h4⟩) fun Q q => ⟨e.k, e.c, e.b, e.n, e.s, rfl, q⟩))) (fun h5 => ?_) (fun h5 => ?_)
      · have hb2 : e.ok = false := by
          show isEvent e.k e.c e.b e.n e.s = false
          simpa using h5
        have e2 : (fives xs).all M5.ok = false := by
          rw [← List.take_append_drop (d + 1) (fives xs), List.all_append, key, hb2]
          rfl
        rw [e2] at k
        exact st_ret val_c k
      · have hb2 : e.ok = true := by
          show isEvent e.k e.c e.b e.n e.s = true
          simpa using h5
        exact ⟨_, rfl, rfl, key.trans hb2⟩
    · rintro σ' H' ⟨v, rfl, rfl, hall⟩
      rw [List.take_of_length_le (by omega)] at hall
      rw [hall] at k
      exact st_ret val_c k
/-- [.. for .. in range(0, len, step)] -/
theorem lc_rangeC {lo cc : Int} {n : Nat} {g : TG} {tq : TT} {te : TE} {vs : List Nat} {H1 : Hp} {D : Addr} {Qd : Hp → Prop} (Pv : Nat → Hp → Prop) (h0 : Pv 0 (upd H1 D (.lst [])))
    (hs : ∀ (i : Nat) H, i < n → Pv i H → g (.int (lo + (i : Nat) * cc)) (wipe σ vs) H fun σ2 H2 => wipe σ2 vs = wipe σ vs ∧ tq σ2 H2 fun b H3 =>
      if b = true then te σ2 H3 fun y H4 => ∃ acc, H4 D = some (.lst acc) ∧ acc.length < sizeLine ∧ Pv (i + 1) (upd H4 D (.lst (acc ++ [y]))) else Pv (i + 1) H3) (hd : ∀ H, Pv n H → Qd H) :
    ∃ W : Nat → Nat → Hp → Prop, (∃ m, W 0 m (upd H1 D (.lst []))) ∧ ∀ i m H, W i m H →
      ((Itc lo cc n).stop i H ∧ Qd H) ∨ ((Itc lo cc n).go i H ∧ ∃ Nx : Hp → Prop, (∀ H', Nx H' → ∃ m', m' < m ∧ W (i + 1) m' H') ∧ ∀ x H', (Itc lo cc n).yld i H x H' → g x (wipe σ vs) H' fun σ2 H2 => wipe σ2 vs = wipe σ vs ∧ tq σ2 H2 fun b H3 =>
        if b = true then te σ2 H3 fun y H4 => ∃ acc, H4 D = some (.lst acc) ∧ acc.length < sizeLine ∧ Nx (upd H4 D (.lst (acc ++ [y]))) else Nx H3) := by
  refine ⟨fun i m H => m = n - i ∧ i ≤ n ∧ Pv i H, ⟨n, by simp, Nat.zero_le _, h0⟩, ?_⟩
  rintro i m H ⟨rfl, hi, p⟩
  by_cases hlt : i < n
  · refine .inr ⟨hlt, Pv (i + 1), fun H' p' => ⟨n - (i + 1), by omega, rfl, hlt, p'⟩, fun x H' y => ?_⟩
    obtain ⟨e, y⟩ := y
    subst e y
    exact hs i _ hlt p
  · have e : i = n := Nat.le_antisymm hi (Nat.not_lt.mp hlt)
    subst e
    exact .inl ⟨Nat.le_refl _, hd H p⟩
theorem x_lc3 {td te : TE} {len st k : Nat} {ws : List Nat} {Q : VK} (h1 : Val ta σ H (.int 0)) (h2 : Val tb σ H (.int (len : Int))) (h3 : Val td σ H (.int (st : Int))) (hc : 0 < st) (hc2 : st < 1000) (hl : len < 1000000)
    (q : ∀ D, H D = none → ∃ Pv : Nat → Hp → Prop, Pv 0 (upd H D (.lst [])) ∧ (∀ (i : Nat) H', i < (len + st - 1) / st → Pv i H' → wipe ((wipe σ ws).set k (some (.int ((i * st : Nat) : Int)))) ws = wipe σ ws ∧
      te ((wipe σ ws).set k (some (.int ((i * st : Nat) : Int)))) H' fun y H4 => ∃ acc, H4 D = some (.lst acc) ∧ acc.length < sizeLine ∧ Pv (i + 1) (upd H4 D (.lst (acc ++ [y])))) ∧ (∀ H', Pv ((len + st - 1) / st) H' → Q (.ref D) H')) :
    tLc (iRng3 (tCons ta (tCons tb (tCons td tNil)))) (gName k) tYes te ws σ H Q :=
  h1 _ (h2 _ (h3 _ ⟨0, (len : Int), (st : Int), _, rfl, rgC hc hc2 hl, fun D hD => by
    obtain ⟨Pv, p0, ps, pd⟩ := q D hD
    refine lc_rangeC Pv p0 (fun i H' hi p => ?_) pd
    have e : ((0 : Int) + (i : Nat) * (st : Int)) = ((i * st : Nat) : Int) := by
      rw [Int.zero_add, Int.natCast_mul]
    obtain ⟨z1, z2⟩ := ps i H' hi p
    rw [e]
    exact ⟨z1, x_each z2⟩⟩))
theorem ok_events_of {f : Addr} {fd : FuncData} (F : Fun K "events_of" "events_of" s_events_of f fd) (T : Txt K mg c) : FnOk P w K mg base CX0 1 f fd ["numbers"] (sp_events_of K c) := by
  refine F.ok sc_events_of (fun vs H Q E h => ?_) (fun cdv A outer s H vs Q E hr h => ?_)
  · obtain ⟨p, xs, rfl, hl, hz, he, k⟩ := h
    rfl
  obtain ⟨p, xs, rfl, hl, hz, he, k⟩ := h
  refine ⟨_, (pss_one (ps_ret (pe_lc (own := [("at", 1)]) (g := gName 1) (tt := tYes) rfl sc_events_of.nd (pi_range3 (by rfl) T.z_range (pa_cons pe_int (pa_cons (pe_callB call_len_seq (by rfl) T.z_len PySem.boot_len (pa_cons (pv 0) pa_nil)) (pa_cons (pe_gc T.g_EVENT) pa_nil)))) (blkOk_by (own := [("at", 1)]) (N := n_events_of) (sc := defScope s_events_of) (by decide +kernel)) (fun _ _ _ _ _ => pg_name (i := 1) sc_events_of.nd rfl (Or.inl rfl)) (fun _ _ _ _ _ => pts_nil) (fun _ _ _ _ _ => (pe_tup (pa_cons (pe_ix (ix_listK (K := K) rfl) (pv 0) (pv 1) (fun _ _ => rfl)) (pa_cons (pe_ix (ix_listK (K := K) rfl) (pv 0) (pe_op op_add (pv 1) pe_int) (fun _ _ => rfl)) (pa_cons (pe_ix (ix_listK (K := K) rfl) (pv 0) (pe_op op_add (pv 1) pe_int) (fun _ _ => rfl)) (pa_cons (pe_ix (ix_listK (K := K) rfl) (pv 0) (pe_op op_add (pv 1) pe_int) (fun _ _ => rfl)) (pa_cons (pe_ix (ix_listK (K := K) rfl) (pv 0) (pe_op op_add (pv 1) pe_int) (fun _ _ => rfl)) pa_nil)))))))))), ?_⟩
  have hlen := fives_len xs he
  refine x_ret ?_
  refine x_lc3 (len := xs.length) (st := 5) val_c (v_lenI (val_var rfl) hl) val_c (by decide) (by decide) (by omega) fun D hD => ?_
  refine ⟨fun i H' => ∃ as, H' D = some (.lst (as.map V.ref)) ∧ TupsAt H' as (((fives xs).take i).map M5.row) ∧ as.length = i ∧ Mv [] H [D] H', ⟨[], upd_same, .nil, rfl, .laid hD⟩, ?_, ?_⟩
  · rintro d H' hd ⟨as, h1, h2, h3, mv⟩
    refine ⟨rfl, ?_⟩
    obtain ⟨e, q0, q1, q2, q3, q4, hp⟩ := five_at he hd
    have hl2 := mv.same _ _ hl
    refine x_tup (av_five (d := d) (val_var rfl) (val_var rfl) hl2 ⟨q0, q1, q2, q3, q4⟩) fun t ht => ?_
    have nt : D ≠ t := ne_of_none h1 ht
    have mv2 : Mv [D] H' [D] (upd (upd H' t (.tup (e.row.map V.int))) D (.lst (as.map V.ref ++ [.ref t]))) := ((Mv.refl [D] H').aside ht).setL (by simp) (by rw [upd_ne nt]; exact h1)
    refine ⟨as.map V.ref, by rw [upd_ne nt]; exact h1, ?_, as ++ [t], ?_, ?_, by simp [h3], mv.trans mv2⟩
    · rw [List.length_map, h3]
      exact Nat.lt_of_lt_of_le (show d < 1000000 by omega) (by decide)
    · rw [upd_same, List.map_append]
      rfl
    · rw [List.take_add_one, hp, Option.toList_some, List.map_append]
      exact (mv2.tups h2).append (.cons (by rw [upd_ne nt.symm, upd_same]) .nil)
  · rintro H' ⟨as, h1, h2, h3, mv⟩
    rw [List.take_of_length_le (by omega)] at h2
    exact k H' D mv.same hD ⟨as, h1, h2⟩
/-! the questions -/
theorem v_ev {p : Addr} {es : List M5} {i j : Nat} {e : M5} {z : Int} (ha : Val ta σ H (.ref p)) (hb : Val tb σ H (.int (i : Int))) (R : Ev H p es) (he : es[i]? = some e) (hz : e.row[j]? = some z) :
    Val (tOp (rIxT K) (tOp (rIxL K) ta tb) (tC (.int (j : Int)))) σ H (.int z) := by
  obtain ⟨as, h1, h2⟩ := R
  obtain ⟨t, ht, hto⟩ := h2.get (i := i) (r := e.row) (by rw [List.getElem?_map, he]; rfl)
  exact v_ixT (v_ixL ha hb (SqL.of h1) (get_atI (v := .ref t) (k := i) rfl (by rw [List.getElem?_map, ht]; rfl))) val_c (SqT.of hto) (get_atI (k := j) rfl (by rw [List.getElem?_map, hz]; rfl))
theorem ev_get {es : List M5} {i : Nat} (h : i < es.length) : ∃ e, es[i]? = some e ∧ (es[i]?).getD default = e := ⟨es[i], List.getElem?_eq_getElem h, by rw [List.getElem?_eq_getElem h]; rfl⟩
theorem ok_last_request {f : Addr} {fd : FuncData} (F : Fun K "last_request" "last_request" s_last_request f fd) (T : Txt K mg c) : FnOk P w K mg base CX0 1 f fd ["events", "at", "client"] (sp_last_request K c) := by
  refine F.ok sc_last_request (fun vs H Q E h => ?_) (fun cdv A outer s H vs Q E hr h => ?_)
  · obtain ⟨p, es, at', cl, rfl, R, hat, hz, k⟩ := h
    rfl
  obtain ⟨p, es, at', cl, rfl, R, hat, hz, k⟩ := h
  refine ⟨_, (pss_cons (ps_set (i := 3) sc_last_request.nd rfl (Or.inl rfl) (pe_un un_neg pe_int))
      (pss_cons (ps_for PassesOwn.never rfl (pi_range1 (by rfl) T.z_range (pa_cons (pv 1) pa_nil)) (pg_name (i := 4) sc_last_request.nd rfl (Or.inl rfl)) (pss_one (ps_if (PW.pt (pw_and (pt_cmpR op_eq (pe_ix ix_tup (pe_ix ix_list (pv 0) (pv 4) (fun _ _ => rfl)) pe_int (fun _ _ => rfl)) (pe_gc T.g_REQUEST_histories) (nomark _)) (pw_and1 (pt_cmpR op_eq (pe_ix ix_tup (pe_ix ix_list (pv 0) (pv 4) (fun _ _ => rfl)) pe_int (fun _ _ => rfl)) (pv 2) (nomark _))))) (pss_one (ps_set (i := 3) sc_last_request.nd rfl (Or.inl rfl) (pv 4))) pss_nil)))
      (pss_one (ps_ret (pv 3))))), ?_⟩
  refine q_set (v_neg val_c) ?_
  refine q_for1 (val_var rfl) ⟨by omega, by omega⟩ (fun i σ' H' => ∃ v, σ' = [some (.ref p), some (.int (at' : Int)), some (.int cl), some (.int (lastRequest es cl i)), v] ∧ H' = H) ⟨none, rfl, rfl⟩ ?_ ?_
  · rintro i σ' H' hi ⟨v, rfl, rfl⟩
    obtain ⟨e, he, _⟩ := ev_get (es := es) (i := i) (by omega)
    have en : lastRequest es cl (i + 1) = if e.k = 0 ∧ e.c = cl then (i : Int) else lastRequest es cl i := by
      show (match es[i]? with
        | some e => if e.k = 0 ∧ e.c = cl then (i : Int) else lastRequest es cl i
        | none => lastRequest es cl i) = _
      rw [he]
    rw [en]
    refine s_if (a_and (a_val (v_eq (v_ev (i := i) (j := 0) (val_var rfl) (val_var rfl) R he rfl) val_c)) fun _ => a_val (v_eq (v_ev (i := i) (j := 1) (val_var rfl) (val_var rfl) R he rfl) (val_var rfl))) (fun h => ?_) (fun h => ?_)
    · have q : e.k = 0 ∧ e.c = cl := by simpa using h
      rw [if_pos q]
      exact st_set (val_var rfl) ⟨_, rfl, rfl⟩
    · have q : ¬ (e.k = 0 ∧ e.c = cl) := by simpa using h
      rw [if_neg q]
      exact ⟨_, rfl, rfl⟩
  · rintro σ' H' ⟨v, rfl, rfl⟩
    exact st_ret (val_var rfl) k
/-- any over a part, one step more -/
theorem any_step {es : List M5} {f : M5 → Bool} {lo d : Nat} {e : M5} {at' : Nat} (he : es[lo + d]? = some e) (hlt : lo + d < at') (h : (((es.take at').drop lo).take d).any f = false) : (((es.take at').drop lo).take (d + 1)).any f = f e := by
  rw [List.take_add_one, List.any_append, h, Bool.false_or, List.getElem?_drop, List.getElem?_take, if_pos hlt, he]
  simp
theorem any_more {es : List M5} {f : M5 → Bool} {lo d : Nat} {at' : Nat} (h : (((es.take at').drop lo).take d).any f = true) : ((es.take at').drop lo).any f = true := by
  rw [← List.take_append_drop d ((es.take at').drop lo), List.any_append, h, Bool.true_or]
theorem ok_is_unanswered {f : Addr} {fd : FuncData} (F : Fun K "is_unanswered" "is_unanswered" s_is_unanswered f fd) (T : Txt K mg c) : FnOk P w K mg base CX0 1 f fd ["events", "at", "last"] (sp_is_unanswered K c) := by
  refine F.ok sc_is_unanswered (fun vs H Q E h => ?_) (fun cdv A outer s H vs Q E hr h => ?_)
  · obtain ⟨p, es, at', last, rfl, R, hat, hl, hz, k⟩ := h
    rfl
  obtain ⟨p, es, at', last, rfl, R, hat, hl, hz, k⟩ := h
  refine ⟨_, (pss_cons (ps_set (i := 3) sc_is_unanswered.nd rfl (Or.inl rfl) (pe_ix ix_tup (pe_ix ix_list (pv 0) (pv 2) (fun _ _ => rfl)) pe_int (fun _ _ => rfl)))
      (pss_cons (ps_for PassesOwn.never rfl (pi_range2 (by rfl) T.z_range (pa_cons (pe_op op_add (pv 2) pe_int) (pa_cons (pv 1) pa_nil))) (pg_name (i := 4) sc_is_unanswered.nd rfl (Or.inl rfl)) (pss_one (ps_if (PW.pt (pw_and (pt_cmpR op_eq (pe_ix ix_tup (pe_ix ix_list (pv 0) (pv 4) (fun _ _ => rfl)) pe_int (fun _ _ => rfl)) (pe_gc T.g_RECEIPT_histories) (nomark _)) (pw_and1 (pt_cmpR op_eq (pe_ix ix_tup (pe_ix ix_list (pv 0) (pv 4) (fun _ _ => rfl)) pe_int (fun _ _ => rfl)) (pv 3) (nomark _))))) (pss_one (ps_ret pe_bl)) pss_nil)))
      (pss_one (ps_ret pe_bl)))), ?_⟩
  obtain ⟨o, ho, hod⟩ := ev_get (es := es) (i := last) (by omega)
  refine q_set (v_ev (i := last) (j := 1) (z := o.c) (val_var rfl) (val_var rfl) R ho rfl) ?_
  have ek : isUnanswered es at' last = !((es.take at').drop (last + 1)).any (isReceiptOf o.c) := by
    unfold isUnanswered
    rw [hod]
  rw [ek] at k
  refine q_for2 (i := ((last + 1 : Nat) : Int)) (v_to (v_add (val_var rfl) val_c) rfl) (val_var rfl) ⟨by omega, by omega, by omega, by omega⟩ (fun d σ' H' => ∃ v, σ' = [some (.ref p), some (.int (at' : Int)), some (.int (last : Int)), some (.int o.c), v] ∧ H' = H ∧ (((es.take at').drop (last + 1)).take d).any (isReceiptOf o.c) = false) ⟨none, rfl, rfl, rfl⟩ ?_ ?_
  · rintro d σ' H' hd ⟨v, rfl, rfl, hany⟩
    have hlt : last + 1 + d < at' := by omega
    obtain ⟨e, he, _⟩ := ev_get (es := es) (i := last + 1 + d) (by omega)
    have key := any_step he hlt hany
    refine s_if (a_and (a_val (v_eq (v_ev (i := last + 1 + d) (j := 0) (val_var rfl) (v_to (val_var rfl) (congrArg V.int (by omega))) R he rfl) val_c)) fun _ => a_val (v_eq (v_ev (i := last + 1 + d) (j := 1) (val_var rfl) (v_to (val_var rfl) (congrArg V.int (by omega))) R he rfl) (val_var rfl))) (fun h => ?_) (fun h => ?_)
    · have q : isReceiptOf o.c e = true := h
      rw [q] at key
      rw [any_more key] at k
      exact st_ret val_c k
    · have q : isReceiptOf o.c e = false := h
      rw [q] at key
      exact ⟨_, rfl, rfl, key⟩
  · rintro σ' H' ⟨v, rfl, rfl, hany⟩
    rw [List.take_of_length_le (by rw [List.length_drop, List.length_take]; omega)] at hany
    rw [hany] at k
    exact st_ret val_c k
theorem ok_was_received {f : Addr} {fd : FuncData} (F : Fun K "was_received" "was_received" s_was_received f fd) (T : Txt K mg c) : FnOk P w K mg base CX0 1 f fd ["events", "at", "stamp"] (sp_was_received K c) := by
  refine F.ok sc_was_received (fun vs H Q E h => ?_) (fun cdv A outer s H vs Q E hr h => ?_)
  · obtain ⟨p, es, at', s0, rfl, R, hat, hz, k⟩ := h
    rfl
  obtain ⟨p, es, at', s0, rfl, R, hat, hz, k⟩ := h
  refine ⟨_, (pss_cons (ps_for PassesOwn.never rfl (pi_range1 (by rfl) T.z_range (pa_cons (pv 1) pa_nil)) (pg_name (i := 3) sc_was_received.nd rfl (Or.inl rfl)) (pss_one (ps_if (PW.pt (pw_and (pt_cmpR op_eq (pe_ix ix_tup (pe_ix ix_list (pv 0) (pv 3) (fun _ _ => rfl)) pe_int (fun _ _ => rfl)) (pe_gc T.g_RECEIPT_histories) (nomark _)) (pw_and1 (pt_cmpR op_eq (pe_ix ix_tup (pe_ix ix_list (pv 0) (pv 3) (fun _ _ => rfl)) pe_int (fun _ _ => rfl)) (pv 2) (nomark _))))) (pss_one (ps_ret pe_bl)) pss_nil)))
      (pss_one (ps_ret pe_bl))), ?_⟩
  have ek : wasReceived es at' s0 = ((es.take at').drop 0).any (isReceiptAt s0) := rfl
  rw [ek] at k
  refine q_for1 (val_var rfl) ⟨by omega, by omega⟩ (fun d σ' H' => ∃ v, σ' = [some (.ref p), some (.int (at' : Int)), some (.int s0), v] ∧ H' = H ∧ (((es.take at').drop 0).take d).any (isReceiptAt s0) = false) ⟨none, rfl, rfl, rfl⟩ ?_ ?_
  · rintro d σ' H' hd ⟨v, rfl, rfl, hany⟩
    have hlt : 0 + d < at' := by omega
    obtain ⟨e, he, _⟩ := ev_get (es := es) (i := d) (by omega)
    have key := any_step (lo := 0) (e := e) (by rw [Nat.zero_add]; exact he) hlt hany
    refine s_if (a_and (a_val (v_eq (v_ev (i := d) (j := 0) (val_var rfl) (val_var rfl) R he rfl) val_c)) fun _ => a_val (v_eq (v_ev (i := d) (j := 4) (val_var rfl) (val_var rfl) R he rfl) (val_var rfl))) (fun h => ?_) (fun h => ?_)
    · have q : isReceiptAt s0 e = true := h
      rw [q] at key
      rw [any_more key] at k
      exact st_ret val_c k
    · have q : isReceiptAt s0 e = false := h
      rw [q] at key
      exact ⟨_, rfl, rfl, key⟩
  · rintro σ' H' ⟨v, rfl, rfl, hany⟩
    rw [List.take_of_length_le (by rw [List.length_drop, List.length_take]; omega)] at hany
    rw [hany] at k
    exact st_ret val_c k
theorem ok_highest_received {f : Addr} {fd : FuncData} (F : Fun K "highest_received" "highest_received" s_highest_received f fd) (T : Txt K mg c) : FnOk P w K mg base CX0 1 f fd ["events", "at"] (sp_highest_received K c) := by
  refine F.ok sc_highest_received (fun vs H Q E h => ?_) (fun cdv A outer s H vs Q E hr h => ?_)
  · obtain ⟨p, es, at', rfl, R, hat, hz, k⟩ := h
    rfl
  obtain ⟨p, es, at', rfl, R, hat, hz, k⟩ := h
  refine ⟨_, (pss_cons (ps_set (i := 2) sc_highest_received.nd rfl (Or.inl rfl) pe_int)
      (pss_cons (ps_for PassesOwn.never rfl (pi_range1 (by rfl) T.z_range (pa_cons (pv 1) pa_nil)) (pg_name (i := 3) sc_highest_received.nd rfl (Or.inl rfl)) (pss_one (ps_if (pt_cmpR op_eq (pe_ix ix_tup (pe_ix ix_list (pv 0) (pv 3) (fun _ _ => rfl)) pe_int (fun _ _ => rfl)) (pe_gc T.g_RECEIPT_histories) (nomark _)) (pss_one (ps_set (i := 2) sc_highest_received.nd rfl (Or.inl rfl) (pe_callB (call_max2 rfl) (by rfl) T.z_max (by decide +kernel) (pa_cons (pv 2) (pa_cons (pe_ix ix_tup (pe_ix ix_list (pv 0) (pv 3) (fun _ _ => rfl)) pe_int (fun _ _ => rfl)) pa_nil))))) pss_nil)))
      (pss_one (ps_ret (pv 2))))), ?_⟩
  refine q_set val_c ?_
  refine q_for1 (val_var rfl) ⟨by omega, by omega⟩ (fun d σ' H' => ∃ v, σ' = [some (.ref p), some (.int (at' : Int)), some (.int ((es.take d).foldl highOn 0)), v] ∧ H' = H) ⟨none, rfl, rfl⟩ ?_ ?_
  · rintro d σ' H' hd ⟨v, rfl, rfl⟩
    obtain ⟨e, he, _⟩ := ev_get (es := es) (i := d) (by omega)
    have en : (es.take (d + 1)).foldl highOn 0 = highOn ((es.take d).foldl highOn 0) e := by
      rw [List.take_add_one, he, Option.toList_some, List.foldl_append]
      rfl
    rw [en]
    refine s_if (a_val (v_eq (v_ev (i := d) (j := 0) (val_var rfl) (val_var rfl) R he rfl) val_c)) (fun h => ?_) (fun h => ?_)
    · rw [show highOn ((es.take d).foldl highOn 0) e = if ((es.take d).foldl highOn 0) < e.s then e.s else ((es.take d).foldl highOn 0) from if_pos (of_decide_eq_true h)]
      exact st_set (v_max2 (val_var rfl) (v_ev (i := d) (j := 4) (val_var rfl) (val_var rfl) R he rfl)) ⟨_, rfl, rfl⟩
    · rw [show highOn ((es.take d).foldl highOn 0) e = ((es.take d).foldl highOn 0) from if_neg (of_decide_eq_false h)]
      exact ⟨_, rfl, rfl⟩
  · rintro σ' H' ⟨v, rfl, rfl⟩
    exact st_ret (val_var rfl) k
end
end Tz
namespace Tz
open PySem PySem.Spec PyProof.Rows L2
theorem lastRequest_lt (es : List M5) (c : Int) : ∀ n, lastRequest es c n < (n : Int)
  | 0 => by
    show (-1 : Int) < 0
    decide
  | i + 1 => by
    have ih := lastRequest_lt es c i
    show (match es[i]? with
      | some e => if e.k = 0 ∧ e.c = c then (i : Int) else lastRequest es c i
      | none => lastRequest es c i) < _
    split
    · split <;> omega
    · omega
section
variable {P : Program} {w : World} {K : PySem.W.Frag} {mg : Str → Option Value} {base : Heap} {c : CA}
variable {σ : L2.St} {H : Hp} {tt : TA} {ta tb : TE} {E : XK}
/-- kind, client, .. = events[at] -/
theorem q_unpack {D : Ends} {us : TS} {p : Addr} {es : List M5} {i : Nat} {e : M5} {s1 s2 s3 s4 s5 : Nat} (ha : Val ta σ H (.ref p)) (hb : Val tb σ H (.int (i : Int))) (R : Ev H p es) (he : es[i]? = some e)
    (q : us D (((((σ.set s1 (some (.int e.k))).set s2 (some (.int e.c))).set s3 (some (.int e.b))).set s4 (some (.int e.n))).set s5 (some (.int e.s))) H) :
    tSeq (tAsg (tOp (rIxL K) ta tb) (gTup K 5 (gCons (gName s1) (gCons (gName s2) (gCons (gName s3) (gCons (gName s4) (gCons (gName s5) gNil))))))) us D σ H := by
  obtain ⟨as, h1, h2⟩ := R
  obtain ⟨t, ht, hto⟩ := h2.get (i := i) (r := e.row) (by rw [List.getElem?_map, he]; rfl)
  refine v_ixL ha hb (SqL.of h1) (get_atI (v := .ref t) (k := i) rfl (by rw [List.getElem?_map, ht]; rfl)) _ ?_
  exact ⟨t, _, rfl, SqT.of hto, rfl, _, _, rfl, _, _, rfl, _, _, rfl, _, _, rfl, _, _, rfl, rfl, q⟩
theorem v_last {p : Addr} {es : List M5} {at' : Nat} {cl : Int} (h : AV tt σ H [.ref p, .int (at' : Int), .int cl]) (R : Ev H p es) (h1 : at' ≤ es.length) (h2 : es.length < 100000) : Val (tCall (sp_last_request K c) [] E tt) σ H (.int (lastRequest es cl at')) :=
  v_call h fun Q q => ⟨p, es, at', cl, rfl, R, h1, h2, q⟩
theorem v_unans {p : Addr} {es : List M5} {at' last : Nat} (h : AV tt σ H [.ref p, .int (at' : Int), .int (last : Int)]) (R : Ev H p es) (h1 : at' ≤ es.length) (hl : last < at') (h2 : es.length < 100000) : Val (tCall (sp_is_unanswered K c) [] E tt) σ H (.bl (isUnanswered es at' last)) :=
  v_call h fun Q q => ⟨p, es, at', last, rfl, R, h1, hl, h2, q⟩
theorem ok_is_right_request {f : Addr} {fd : FuncData} (F : Fun K "is_right_request" "is_right_request" s_is_right_request f fd) (T : Txt K mg c) (D_is_unanswered : DefOk P w K mg base "is_unanswered" 1 ["events", "at", "last"] (sp_is_unanswered K c)) (D_last_request : DefOk P w K mg base "last_request" 1 ["events", "at", "client"] (sp_last_request K c)) : FnOk P w K mg base CX0 2 f fd ["events", "at"] (sp_is_right_request K c) := by
  refine F.ok sc_is_right_request (fun vs H Q E h => ?_) (fun cdv A outer s H vs Q E hr h => ?_)
  · obtain ⟨p, es, at', rfl, R, hat, hz, k⟩ := h
    rfl
  obtain ⟨p, es, at', rfl, R, hat, hz, k⟩ := h
  refine ⟨_, (pss_cons (ps_asg (pe_ix ix_list (pv 0) (pv 1) (fun _ _ => rfl)) (pg_tup rfl (pgs_cons (pg_name (i := 5) sc_is_right_request.nd rfl (Or.inl rfl)) (pgs_cons (pg_name (i := 6) sc_is_right_request.nd rfl (Or.inl rfl)) (pgs_cons (pg_name (i := 7) sc_is_right_request.nd rfl (Or.inl rfl)) (pgs_cons (pg_name (i := 8) sc_is_right_request.nd rfl (Or.inl rfl)) (pgs_cons (pg_name (i := 9) sc_is_right_request.nd rfl (Or.inl rfl)) pgs_nil)))))))
      (pss_cons (ps_set (i := 2) sc_is_right_request.nd rfl (Or.inl rfl) (pe_callD D_last_request (hr.mono (by decide)) (pa_cons (pv 0) (pa_cons (pv 1) (pa_cons (pv 6) pa_nil)))))
      (pss_cons (ps_if (pt_cmpR op_lt (pv 2) pe_int (nomark _)) (pss_one (ps_ret (pe_cmpR op_eq (pv 8) pe_int (nomark _)))) pss_nil)
      (pss_cons (ps_set (i := 3) sc_is_right_request.nd rfl (Or.inl rfl) (pe_ix ix_tup (pe_ix ix_list (pv 0) (pv 2) (fun _ _ => rfl)) pe_int (fun _ _ => rfl)))
      (pss_cons (ps_set (i := 4) sc_is_right_request.nd rfl (Or.inl rfl) (pe_ix ix_tup (pe_ix ix_list (pv 0) (pv 2) (fun _ _ => rfl)) pe_int (fun _ _ => rfl)))
      (pss_cons (ps_if (pt_cmpR op_gt (pv 7) (pv 3) (nomark _)) (pss_one (ps_ret (pe_cmpR op_eq (pv 8) pe_int (nomark _)))) pss_nil)
      (pss_cons (ps_if (pt_cmpR op_lt (pv 7) (pv 3) (nomark _)) (pss_one (ps_ret pe_bl)) pss_nil)
      (pss_one (ps_ret (pe_and (pe_not (pe_callD D_is_unanswered (hr.mono (by decide)) (pa_cons (pv 0) (pa_cons (pv 1) (pa_cons (pv 2) pa_nil))))) (pe_one (pe_cmpR op_eq (pv 8) (pe_op op_add (pv 4) pe_int) (nomark _))))))))))))), ?_⟩
  obtain ⟨e, he, hed⟩ := ev_get hat
  refine q_unpack (val_var rfl) (val_var rfl) R he ?_
  refine q_set (v_last (av_cons (val_var rfl) (av_cons (val_var rfl) (av_cons (val_var rfl) av_nil))) R (Nat.le_of_lt hat) hz) ?_
  have hlt := lastRequest_lt es e.c at'
  have ek : isRightRequest es at' = if lastRequest es e.c at' < 0 then decide (e.n = 1) else if ((es[(lastRequest es e.c at').toNat]?).getD default).b < e.b then decide (e.n = 1) else if e.b < ((es[(lastRequest es e.c at').toNat]?).getD default).b then false
      else !isUnanswered es at' (lastRequest es e.c at').toNat && decide (e.n = ((es[(lastRequest es e.c at').toNat]?).getD default).n + 1) := by
    unfold isRightRequest
    simp only [hed]
  rw [ek] at k
  generalize lastRequest es e.c at' = last at *
  refine q_ifn (a_val (v_lt (val_var rfl) val_c)) (fun h => ?_) (fun h => ?_)
  · rw [if_pos (of_decide_eq_true h)] at k
    exact st_ret (v_eq (val_var rfl) val_c) k
  · rw [if_neg (of_decide_eq_false h)] at k
    have hl0 : ¬ last < 0 := of_decide_eq_false h
    obtain ⟨l, rfl⟩ : ∃ l : Nat, last = (l : Int) := ⟨last.toNat, by omega⟩
    obtain ⟨o, ho, hod⟩ := ev_get (es := es) (i := l) (by omega)
    rw [show ((l : Int)).toNat = l from rfl, hod] at k
    refine q_set (v_ev (i := l) (j := 2) (z := o.b) (val_var rfl) (val_var rfl) R ho rfl) ?_
    refine q_set (v_ev (i := l) (j := 3) (z := o.n) (val_var rfl) (val_var rfl) R ho rfl) ?_
    refine q_ifn (a_val (v_gt (val_var rfl) (val_var rfl))) (fun h => ?_) (fun h => ?_)
    · rw [if_pos (of_decide_eq_true h)] at k
      exact st_ret (v_eq (val_var rfl) val_c) k
    · rw [if_neg (of_decide_eq_false h)] at k
      refine q_ifn (a_val (v_lt (val_var rfl) (val_var rfl))) (fun h => ?_) (fun h => ?_)
      · rw [if_pos (of_decide_eq_true h)] at k
        exact st_ret val_c k
      · rw [if_neg (of_decide_eq_false h)] at k
        exact st_ret (v_andV (v_notV (v_unans (av_cons (val_var rfl) (av_cons (val_var rfl) (av_cons (val_var rfl) av_nil))) R (Nat.le_of_lt hat) (by omega) hz)) fun _ => v_eq (val_var rfl) (v_add (val_var rfl) val_c)) k
theorem ok_fault_of_receipt {f : Addr} {fd : FuncData} (F : Fun K "fault_of_receipt" "fault_of_receipt" s_fault_of_receipt f fd) (T : Txt K mg c) (D_highest_received : DefOk P w K mg base "highest_received" 1 ["events", "at"] (sp_highest_received K c)) (D_was_received : DefOk P w K mg base "was_received" 1 ["events", "at", "stamp"] (sp_was_received K c)) (D_is_unanswered : DefOk P w K mg base "is_unanswered" 1 ["events", "at", "last"] (sp_is_unanswered K c)) (D_last_request : DefOk P w K mg base "last_request" 1 ["events", "at", "client"] (sp_last_request K c)) : FnOk P w K mg base CX0 2 f fd ["events", "at"] (sp_fault_of_receipt K c) := by
  refine F.ok sc_fault_of_receipt (fun vs H Q E h => ?_) (fun cdv A outer s H vs Q E hr h => ?_)
  · obtain ⟨p, es, at', rfl, R, hat, hz, k⟩ := h
    rfl
  obtain ⟨p, es, at', rfl, R, hat, hz, k⟩ := h
  refine ⟨_, (pss_cons (ps_asg (pe_ix ix_list (pv 0) (pv 1) (fun _ _ => rfl)) (pg_tup rfl (pgs_cons (pg_name (i := 3) sc_fault_of_receipt.nd rfl (Or.inl rfl)) (pgs_cons (pg_name (i := 4) sc_fault_of_receipt.nd rfl (Or.inl rfl)) (pgs_cons (pg_name (i := 5) sc_fault_of_receipt.nd rfl (Or.inl rfl)) (pgs_cons (pg_name (i := 6) sc_fault_of_receipt.nd rfl (Or.inl rfl)) (pgs_cons (pg_name (i := 7) sc_fault_of_receipt.nd rfl (Or.inl rfl)) pgs_nil)))))))
      (pss_cons (ps_set (i := 2) sc_fault_of_receipt.nd rfl (Or.inl rfl) (pe_callD D_last_request (hr.mono (by decide)) (pa_cons (pv 0) (pa_cons (pv 1) (pa_cons (pv 4) pa_nil)))))
      (pss_cons (ps_if (PW.pt (pw_or (pt_cmpR op_lt (pv 2) pe_int (nomark _)) (pw_or1 (pt_not (pt_val (pe_callD D_is_unanswered (hr.mono (by decide)) (pa_cons (pv 0) (pa_cons (pv 1) (pa_cons (pv 2) pa_nil))))))))) (pss_one (ps_ret pe_int)) pss_nil)
      (pss_cons (ps_if (PW.pt (pw_or (pt_cmpR op_ne (pe_ix ix_tup (pe_ix ix_list (pv 0) (pv 2) (fun _ _ => rfl)) pe_int (fun _ _ => rfl)) (pv 5) (nomark _)) (pw_or1 (pt_cmpR op_ne (pe_ix ix_tup (pe_ix ix_list (pv 0) (pv 2) (fun _ _ => rfl)) pe_int (fun _ _ => rfl)) (pv 6) (nomark _))))) (pss_one (ps_ret pe_int)) pss_nil)
      (pss_cons (ps_if (pt_val (pe_callD D_was_received (hr.mono (by decide)) (pa_cons (pv 0) (pa_cons (pv 1) (pa_cons (pv 7) pa_nil))))) (pss_one (ps_ret pe_int)) pss_nil)
      (pss_cons (ps_if (PW.pt (pw_or (pt_cmpR op_le (pv 7) pe_int (nomark _)) (pw_or1 (pt_cmpR op_le (pv 7) (pe_callD D_highest_received (hr.mono (by decide)) (pa_cons (pv 0) (pa_cons (pv 2) pa_nil))) (nomark _))))) (pss_one (ps_ret pe_int)) pss_nil)
      (pss_one (ps_ret pe_int)))))))), ?_⟩
  obtain ⟨e, he, hed⟩ := ev_get hat
  refine q_unpack (val_var rfl) (val_var rfl) R he ?_
  refine q_set (v_last (av_cons (val_var rfl) (av_cons (val_var rfl) (av_cons (val_var rfl) av_nil))) R (Nat.le_of_lt hat) hz) ?_
  have hlt := lastRequest_lt es e.c at'
  have ek : faultOfReceipt es at' = if lastRequest es e.c at' < 0 then 2 else if isUnanswered es at' (lastRequest es e.c at').toNat = false then 2
      else if ((es[(lastRequest es e.c at').toNat]?).getD default).b ≠ e.b ∨ ((es[(lastRequest es e.c at').toNat]?).getD default).n ≠ e.n then 2
      else if wasReceived es at' e.s = true then 3 else if e.s ≤ 0 ∨ e.s ≤ highestReceived es (lastRequest es e.c at').toNat then 4 else 0 := by
    unfold faultOfReceipt
    simp only [hed]
  rw [ek] at k
  generalize lastRequest es e.c at' = last at *
  by_cases hl : last < 0
  · rw [if_pos hl] at k
    refine q_ifn (ans_or1 (a_to (a_val (v_lt (val_var rfl) val_c)) (decide_eq_true hl))) (fun _ => ?_) (fun h => by cases h)
    exact st_ret val_c k
  · rw [if_neg hl] at k
    obtain ⟨l, rfl⟩ : ∃ l : Nat, last = (l : Int) := ⟨last.toNat, by omega⟩
    obtain ⟨o, ho, hod⟩ := ev_get (es := es) (i := l) (by omega)
    rw [show ((l : Int)).toNat = l from rfl, hod] at k
    refine q_ifn (b := !isUnanswered es at' l) (ans_or (a_to (a_val (v_lt (val_var rfl) val_c)) (decide_eq_false hl)) (a_not (a_B (v_unans (av_cons (val_var rfl) (av_cons (val_var rfl) (av_cons (val_var rfl) av_nil))) R (Nat.le_of_lt hat) (by omega) hz)))) (fun h => ?_) (fun h => ?_)
    · rw [if_pos (by simpa using h)] at k
      exact st_ret val_c k
    · rw [if_neg (by simpa using h)] at k
      refine q_ifn (a_or (a_val (v_ne (v_ev (i := l) (j := 2) (z := o.b) (val_var rfl) (val_var rfl) R ho rfl) (val_var rfl))) fun _ => a_val (v_ne (v_ev (i := l) (j := 3) (z := o.n) (val_var rfl) (val_var rfl) R ho rfl) (val_var rfl))) (fun h => ?_) (fun h => ?_)
      · rw [if_pos (by simpa using h)] at k
        exact st_ret val_c k
      · rw [if_neg (by simpa using h)] at k
        refine q_ifn (a_B (v_call (av_cons (val_var rfl) (av_cons (val_var rfl) (av_cons (val_var rfl) av_nil))) fun Q q => ⟨p, es, at', e.s, rfl, R, Nat.le_of_lt hat, hz, q⟩)) (fun h => ?_) (fun h => ?_)
        · rw [if_pos h] at k
          exact st_ret val_c k
        · rw [if_neg (by rw [h]; decide)] at k
          refine q_ifn (a_or (a_val (v_le (val_var rfl) val_c)) fun _ => a_val (v_le (val_var rfl) (v_call (av_cons (val_var rfl) (av_cons (val_var rfl) av_nil)) fun Q q => ⟨p, es, l, rfl, R, by omega, hz, q⟩))) (fun h => ?_) (fun h => ?_)
          · rw [if_pos (by simpa using h)] at k
            exact st_ret val_c k
          · rw [if_neg (by simpa using h)] at k
            exact st_ret val_c k
theorem ok_fault_of {f : Addr} {fd : FuncData} (F : Fun K "fault_of" "fault_of" s_fault_of f fd) (T : Txt K mg c) (D_is_right_request : DefOk P w K mg base "is_right_request" 2 ["events", "at"] (sp_is_right_request K c)) (D_fault_of_receipt : DefOk P w K mg base "fault_of_receipt" 2 ["events", "at"] (sp_fault_of_receipt K c)) : FnOk P w K mg base CX0 3 f fd ["events", "at"] (sp_fault_of K c) := by
  refine F.ok sc_fault_of (fun vs H Q E h => ?_) (fun cdv A outer s H vs Q E hr h => ?_)
  · obtain ⟨p, es, at', rfl, R, hat, hz, k⟩ := h
    rfl
  obtain ⟨p, es, at', rfl, R, hat, hz, k⟩ := h
  refine ⟨_, (pss_cons (ps_if (pt_cmpR op_eq (pe_ix ix_tup (pe_ix ix_list (pv 0) (pv 1) (fun _ _ => rfl)) pe_int (fun _ _ => rfl)) (pe_gc T.g_RECEIPT_histories) (nomark _)) (pss_one (ps_ret (pe_callD D_fault_of_receipt (hr.mono (by decide)) (pa_cons (pv 0) (pa_cons (pv 1) pa_nil))))) pss_nil)
      (pss_cons (ps_if (pt_val (pe_callD D_is_right_request (hr.mono (by decide)) (pa_cons (pv 0) (pa_cons (pv 1) pa_nil)))) (pss_one (ps_ret pe_int)) pss_nil)
      (pss_one (ps_ret pe_int)))), ?_⟩
  obtain ⟨e, he, hed⟩ := ev_get hat
  have ek : faultOf es at' = if e.k = 1 then faultOfReceipt es at' else if isRightRequest es at' = true then 0 else 1 := by
    unfold faultOf
    rw [hed]
  rw [ek] at k
  refine q_ifn (a_val (v_eq (v_ev (i := at') (j := 0) (z := e.k) (val_var rfl) (val_var rfl) R he rfl) val_c)) (fun h => ?_) (fun h => ?_)
  · rw [if_pos (of_decide_eq_true h)] at k
    exact st_ret (v_call (av_cons (val_var rfl) (av_cons (val_var rfl) av_nil)) fun Q q => ⟨p, es, at', rfl, R, hat, hz, q⟩) k
  · rw [if_neg (of_decide_eq_false h)] at k
    refine q_ifn (a_B (v_call (av_cons (val_var rfl) (av_cons (val_var rfl) av_nil)) fun Q q => ⟨p, es, at', rfl, R, hat, hz, q⟩)) (fun h => ?_) (fun h => ?_)
    · rw [if_pos h] at k
      exact st_ret val_c k
    · rw [if_neg (by rw [h]; decide)] at k
      exact st_ret val_c k
theorem v_lenEv {p : Addr} {es : List M5} (ha : Val ta σ H (.ref p)) (R : Ev H p es) : Val (tCB (fun xs H Q => ∃ p ys, xs = [.ref p] ∧ (SqL K H p ys ∨ SqT K H p ys) ∧ Q (.int ys.length) H) (tCons ta tNil)) σ H (.int (es.length : Int)) := by
  obtain ⟨as, h1, h2⟩ := R
  exact v_to (v_len ha (SqL.of h1)) (by rw [List.length_map, h2.len, List.length_map])
theorem verdict_go {es : List M5} : ∀ (m a n : Nat), m + n = es.length - a → (∀ i, a ≤ i → i < a + m → faultOf es i = 0) → verdictFrom es a (m + n) = verdictFrom es (a + m) n
  | 0, a, n, _, _ => by rw [Nat.zero_add, Nat.add_zero]
  | m + 1, a, n, h, hf => by
    have e : m + 1 + n = (m + n) + 1 := by omega
    rw [e]
    show (if faultOf es a ≠ 0 then _ else verdictFrom es (a + 1) (m + n)) = _
    rw [if_neg (by rw [hf a (Nat.le_refl _) (by omega)]; simp), verdict_go m (a + 1) n (by omega) fun i h1 h2 => hf i (by omega) (by omega)]
    congr 1
    omega
theorem ok_verdict {f : Addr} {fd : FuncData} (F : Fun K "verdict" "verdict" s_verdict f fd) (T : Txt K mg c) (D_fault_of : DefOk P w K mg base "fault_of" 3 ["events", "at"] (sp_fault_of K c)) : FnOk P w K mg base CX0 4 f fd ["events"] (sp_verdict K c) := by
  refine F.ok sc_verdict (fun vs H Q E h => ?_) (fun cdv A outer s H vs Q E hr h => ?_)
  · obtain ⟨p, es, rfl, R, hz, k⟩ := h
    rfl
  obtain ⟨p, es, rfl, R, hz, k⟩ := h
  refine ⟨_, (pss_cons (ps_for PassesOwn.never rfl (pi_range1 (by rfl) T.z_range (pa_cons (pe_callB call_len_seq (by rfl) T.z_len PySem.boot_len (pa_cons (pv 0) pa_nil)) pa_nil)) (pg_name (i := 1) sc_verdict.nd rfl (Or.inl rfl)) (pss_cons (ps_set (i := 2) sc_verdict.nd rfl (Or.inl rfl) (pe_callD D_fault_of (hr.mono (by decide)) (pa_cons (pv 0) (pa_cons (pv 1) pa_nil))))
      (pss_one (ps_if (pt_cmpR op_ne (pv 2) pe_int (nomark _)) (pss_one (ps_ret (pe_lst (pa_cons (pv 2) (pa_cons (pv 1) pa_nil))))) pss_nil))))
      (pss_one (ps_ret (pe_lst (pa_cons pe_int (pa_cons (pe_callB call_len_seq (by rfl) T.z_len PySem.boot_len (pa_cons (pv 0) pa_nil)) pa_nil)))))), ?_⟩
  refine q_for1 (v_lenEv (val_var rfl) R) ⟨by omega, by omega⟩ (fun d σ' H' => ∃ u v, σ' = [some (.ref p), u, v] ∧ H' = H ∧ ∀ i, i < d → faultOf es i = 0) ⟨none, none, rfl, rfl, fun i hi => absurd hi (Nat.not_lt_zero _)⟩ ?_ ?_
  · rintro d σ' H' hd ⟨u, v, rfl, rfl, hf⟩
    have hd' : d < es.length := by omega
    refine q_set (v_call (av_cons (val_var rfl) (av_cons (val_var rfl) av_nil)) fun Q q => ⟨p, es, d, rfl, R, hd', hz, q⟩) ?_
    refine s_if (a_val (v_ne (val_var rfl) val_c)) (fun h => ?_) (fun h => ?_)
    · have e : faultOf es d ≠ 0 := by simpa using h
      have ev : verdict es = [faultOf es d, (d : Int)] := by
        have z := verdict_go (es := es) d 0 (es.length - d) (by omega) fun i _ hi => hf i (by omega)
        have e2 : d + (es.length - d) = es.length := by omega
        rw [e2] at z
        unfold verdict
        rw [z]
        have e3 : es.length - d = (es.length - d - 1) + 1 := by omega
        rw [e3, Nat.zero_add]
        exact if_pos e
      rw [ev] at k
      exact s_retL (av_cons (val_var rfl) (av_cons (val_var rfl) av_nil)) fun r hr => k.here hr
    · have e : faultOf es d = 0 := by simpa using h
      refine ⟨_, _, rfl, rfl, fun i hi => ?_⟩
      by_cases q : i = d
      · rw [q]
        exact e
      · exact hf i (by omega)
  · rintro σ' H' ⟨u, v, rfl, rfl, hf⟩
    have ev : verdict es = [0, (es.length : Int)] := by
      have z := verdict_go (es := es) es.length 0 0 (by omega) fun i _ hi => hf i (by omega)
      rw [Nat.add_zero, Nat.zero_add] at z
      exact z
    rw [ev] at k
    exact s_retL (av_cons val_c (av_cons (v_lenEv (val_var rfl) R) av_nil)) fun r hr => k.here hr
theorem evl_len5 {xs : List Int} (h : isEventList xs = true) : xs.length % 5 = 0 := by
  unfold isEventList at h
  simp only [Bool.and_eq_true, decide_eq_true_eq] at h
  exact h.1
theorem ok_judge {f : Addr} {fd : FuncData} (F : Fun K "judge" "judge" s_judge f fd) (T : Txt K mg c) (D_verdict : DefOk P w K mg base "verdict" 4 ["events"] (sp_verdict K c)) (D_events_of : DefOk P w K mg base "events_of" 1 ["numbers"] (sp_events_of K c)) (D_is_event_list : DefOk P w K mg base "is_event_list" 2 ["numbers"] (sp_is_event_list K c)) : FnOk P w K mg base CX0 5 f fd ["numbers"] (sp_judge K c) := by
  refine F.ok sc_judge (fun vs H Q E h => ?_) (fun cdv A outer s H vs Q E hr h => ?_)
  · obtain ⟨p, xs, rfl, hl, hz, k⟩ := h
    rfl
  obtain ⟨p, xs, rfl, hl, hz, k⟩ := h
  refine ⟨_, (pss_cons (ps_if (PW.pt (pw_or (pt_cmpR op_gt (pe_callB call_len_seq (by rfl) T.z_len PySem.boot_len (pa_cons (pv 0) pa_nil)) (pe_gc T.g_MOST_JUDGED) (nomark _)) (pw_or1 (pt_not (pt_val (pe_callD D_is_event_list (hr.mono (by decide)) (pa_cons (pv 0) pa_nil))))))) (pss_one (ps_ret (pe_lst (pa_cons (pe_un un_neg pe_int) pa_nil)))) pss_nil)
      (pss_one (ps_ret (pe_callD D_verdict (hr.mono (by decide)) (pa_cons (pe_callD D_events_of (hr.mono (by decide)) (pa_cons (pv 0) pa_nil)) pa_nil))))), ?_⟩
  refine q_ifn (b := decide (300 < xs.length) || !isEventList xs) (a_to (a_or (a_val (v_gt (v_lenI (val_var rfl) hl) val_c)) fun _ => a_not (a_B (v_call (av_cons (val_var rfl) av_nil) fun Q q => ⟨p, xs, rfl, hl, hz, q⟩))) (by congr 1; exact decide_eq_decide.mpr (by omega))) (fun h => ?_) (fun h => ?_)
  · have e : 300 < xs.length ∨ isEventList xs = false := by simpa using h
    rw [show judge xs = [-6] from if_pos e] at k
    exact s_retL (av_cons (v_neg val_c) av_nil) fun r hr => k.here hr
  · have e : ¬ (300 < xs.length ∨ isEventList xs = false) := by
      intro q
      rcases q with q | q
      · simp [q] at h
      · simp [q] at h
    rw [show judge xs = verdict (fives xs) from if_neg e] at k
    have he : isEventList xs = true := by
      cases q : isEventList xs with
      | true => rfl
      | false => exact absurd (.inr q) e
    have hlen := fives_len xs (evl_len5 he)
    refine x_ret (x_callX (x_cons1 (x_call (av_cons (val_var rfl) av_nil) ?_)))
    refine ⟨p, xs, rfl, hl, hz, evl_len5 he, fun H1 q s1 hq R => ?_⟩
    exact ⟨q, fives xs, rfl, R, by omega, k.same s1⟩
end
end Tz
namespace Tz
open PySem PySem.Spec PyProof.Rows L2
/-! ### the scheduler -/
structure QL where
  p : Addr
  s : Addr
  b : Addr
  e : Addr
def QL.fp (q : QL) : List Addr := [q.p, q.s, q.b, q.e]
structure PlanAt (c : CA) (H : Hp) (q : QL) (m : MPlan) : Prop where
  ob : ∃ dx, H q.p = some (.ins c.pl dx (f_pl (.ref q.s) (.ref q.b) (.int m.next) (.ref q.e)))
  st : H q.s = some (.lst (m.steps.map V.int))
  bo : H q.b = some (.lst (m.boots.map V.int))
  pe : H q.e = some (.lst (m.pending.map V.int))
  nd : q.fp.Nodup
section
variable {c : CA} {H H1 : Hp} {q : QL} {m : MPlan}
theorem PlanAt.nes (h : PlanAt c H q m) : q.p ≠ q.s ∧ q.p ≠ q.b ∧ q.p ≠ q.e ∧ q.s ≠ q.b ∧ q.s ≠ q.e ∧ q.b ≠ q.e := by
  have z := h.nd
  simp only [QL.fp, List.nodup_cons, List.mem_cons, List.not_mem_nil, or_false, not_or, List.nodup_nil, and_true, not_false_eq_true] at z
  exact ⟨z.1.1, z.1.2.1, z.1.2.2, z.2.1.1, z.2.1.2, z.2.2⟩
theorem PlanAt.setS {xs : List Int} (h : PlanAt c H q m) (e : H1 q.s = some (.lst (xs.map V.int))) (a : Mv [q.s] H [q.s] H1) : PlanAt c H1 q { m with steps := xs } := by
  obtain ⟨n1, n2, n3, n4, n5, n6⟩ := h.nes
  obtain ⟨⟨dx, h1⟩, h2, h3, h4, h5⟩ := h
  exact ⟨⟨dx, a.get h1 (by simpa using n1)⟩, e, a.get h3 (by simpa using n4.symm), a.get h4 (by simpa using n5.symm), h5⟩
theorem PlanAt.setB {xs : List Int} (h : PlanAt c H q m) (e : H1 q.b = some (.lst (xs.map V.int))) (a : Mv [q.b] H [q.b] H1) : PlanAt c H1 q { m with boots := xs } := by
  obtain ⟨n1, n2, n3, n4, n5, n6⟩ := h.nes
  obtain ⟨⟨dx, h1⟩, h2, h3, h4, h5⟩ := h
  exact ⟨⟨dx, a.get h1 (by simpa using n2)⟩, a.get h2 (by simpa using n4), e, a.get h4 (by simpa using n6.symm), h5⟩
theorem PlanAt.setE {xs : List Int} (h : PlanAt c H q m) (e : H1 q.e = some (.lst (xs.map V.int))) (a : Mv [q.e] H [q.e] H1) : PlanAt c H1 q { m with pending := xs } := by
  obtain ⟨n1, n2, n3, n4, n5, n6⟩ := h.nes
  obtain ⟨⟨dx, h1⟩, h2, h3, h4, h5⟩ := h
  exact ⟨⟨dx, a.get h1 (by simpa using n3)⟩, a.get h2 (by simpa using n5), a.get h3 (by simpa using n6), e, h5⟩
theorem PlanAt.setN {n : Int} {dx : Addr} (h : PlanAt c H q m) (e : H1 q.p = some (.ins c.pl dx (f_pl (.ref q.s) (.ref q.b) (.int n) (.ref q.e)))) (a : Mv [q.p] H [q.p] H1) : PlanAt c H1 q { m with next := n } := by
  obtain ⟨n1, n2, n3, n4, n5, n6⟩ := h.nes
  obtain ⟨_, h2, h3, h4, h5⟩ := h
  exact ⟨⟨dx, e⟩, a.get h2 (by simpa using n1.symm), a.get h3 (by simpa using n2.symm), a.get h4 (by simpa using n3.symm), h5⟩
theorem PlanAt.live (h : PlanAt c H q m) : ∀ b ∈ q.fp, ∃ o, H b = some o := by
  obtain ⟨⟨dx, h1⟩, h2, h3, h4, h5⟩ := h
  intro b hb
  simp only [QL.fp, List.mem_cons, List.not_mem_nil, or_false] at hb
  rcases hb with rfl | rfl | rfl | rfl
  · exact ⟨_, h1⟩
  · exact ⟨_, h2⟩
  · exact ⟨_, h3⟩
  · exact ⟨_, h4⟩
theorem PlanAt.notup {t : Addr} {xs : List V} (h : PlanAt c H q m) (e : H t = some (.tup xs)) : t ∉ q.fp := by
  obtain ⟨⟨dx, h1⟩, h2, h3, h4, h5⟩ := h
  simp only [QL.fp, List.mem_cons, List.not_mem_nil, or_false, not_or]
  refine ⟨fun z => ?_, fun z => ?_, fun z => ?_, fun z => ?_⟩
  · rw [z, h1] at e; cases e
  · rw [z, h2] at e; cases e
  · rw [z, h3] at e; cases e
  · rw [z, h4] at e; cases e
end
def MemOk : Prop := ∀ xs : List Int, isEventList xs = true → (verdict (fives xs)).headD 0 = 0 → PlanMem (fives xs)
def sp_Plan_init (K : PySem.W.Frag) (c : CA) : Sp := fun vs H Q _ => ∃ (p dx : Addr), vs = [.ref p] ∧ H p = some (.ins c.pl dx []) ∧ ∀ H' q, PlanAt c H' q .fresh → q.p = p → Mv [p] H q.fp H' → Q .non H'
def sp_Plan_step (K : PySem.W.Frag) (c : CA) : Sp := fun vs H Q _ => ∃ (q : QL) (m : MPlan) (a b : Int), vs = [.ref q.p, .int a, .int b] ∧ PlanAt c H q m ∧ m.steps.length < 500000 ∧ ∀ H', PlanAt c H' q (m.step a b) → Mv q.fp H q.fp H' → Q .non H'
def sp_Plan_boot_up (K : PySem.W.Frag) (c : CA) : Sp := fun vs H Q _ => ∃ (q : QL) (m : MPlan) (cl b : Int), vs = [.ref q.p, .int cl, .int b] ∧ PlanAt c H q m ∧ m.steps.length < 400000 ∧ m.boots.length = 9 ∧ 0 ≤ cl ∧ cl < 9 ∧ 0 ≤ b ∧ b ≤ 10 ∧ (∀ x ∈ m.boots, 0 ≤ x ∧ x ≤ 10) ∧ ∀ H', PlanAt c H' q (m.bootUp cl b) → Mv q.fp H q.fp H' → Q .non H'
def sp_Plan_plan_request (K : PySem.W.Frag) (c : CA) : Sp := fun vs H Q _ => ∃ (q : QL) (m : MPlan) (cl b : Int), vs = [.ref q.p, .int cl, .int b] ∧ PlanAt c H q m ∧ m.steps.length < 400000 ∧ m.boots.length = 9 ∧ 0 ≤ cl ∧ cl < 9 ∧ 0 ≤ b ∧ b ≤ 10 ∧ (∀ x ∈ m.boots, 0 ≤ x ∧ x ≤ 10) ∧ ∀ H', PlanAt c H' q (m.planRequest cl b) → Mv q.fp H q.fp H' → Q .non H'
def sp_Plan_make_stamp (K : PySem.W.Frag) (c : CA) : Sp := fun vs H Q _ => ∃ (q : QL) (m : MPlan) (cl : Int), vs = [.ref q.p, .int cl] ∧ PlanAt c H q m ∧ m.steps.length < 450000 ∧ ∀ H', PlanAt c H' q (m.makeStamp cl) → Mv q.fp H q.fp H' → Q .non H'
def sp_Plan_plan_pending (K : PySem.W.Frag) (c : CA) : Sp := fun vs H Q _ => ∃ (q : QL) (m : MPlan) (s : Int), vs = [.ref q.p, .int s] ∧ PlanAt c H q m ∧ m.steps.length < 400000 ∧ m.pending.length < 400000 ∧ s ∈ m.pending ∧ ∀ H', PlanAt c H' q (m.planPending s) → Mv q.fp H q.fp H' → Q .non H'
def sp_Plan_pass_stamp (K : PySem.W.Frag) (c : CA) : Sp := fun vs H Q _ => ∃ (q : QL) (m : MPlan) (s o cl : Int), vs = [.ref q.p, .int s, .int o, .int cl] ∧ PlanAt c H q m ∧ m.steps.length < 440000 ∧ m.pending.length < 440000 ∧ ∀ H', PlanAt c H' q (m.passStamp s o cl) → Mv q.fp H q.fp H' → Q .non H'
def sp_Plan_plan_new (K : PySem.W.Frag) (c : CA) : Sp := fun vs H Q _ => ∃ (q : QL) (m : MPlan) (p : Addr) (es : List M5) (cl s : Int), vs = [.ref q.p, .ref p, .int cl, .int s] ∧ PlanAt c H q m ∧ Ev H p es ∧ p ∉ q.fp ∧ m.steps.length < 400000 ∧ m.pending.length < 400000 ∧ 1 ≤ m.next ∧ m.next ≤ 101 ∧ 0 ≤ s ∧ s ≤ 100 ∧ ∀ H', PlanAt c H' q (m.planNew es cl s) → Mv q.fp H q.fp H' → Q .non H'
def sp_owner_of (K : PySem.W.Frag) (c : CA) : Sp := fun vs H Q _ => ∃ (p : Addr) (es : List M5) (s : Int), vs = [.ref p, .int s] ∧ Ev H p es ∧ Q (.int (ownerOf es s)) H
def sp_is_too_large (K : PySem.W.Frag) (c : CA) : Sp := fun vs H Q _ => ∃ (p : Addr) (es : List M5), vs = [.ref p] ∧ Ev H p es ∧ Q (.bl (isTooLarge es)) H
def sp_planned (K : PySem.W.Frag) (c : CA) : Sp := fun vs H Q _ => ∃ (p : Addr) (es : List M5), vs = [.ref p] ∧ Ev H p es ∧ es.length < 100 ∧ (∀ e ∈ es, EvOk e) ∧ PlanMem es ∧ NewI H (planned es) Q
def sp_schedule (K : PySem.W.Frag) (c : CA) : Sp := fun vs H Q _ => ∃ (p : Addr) (xs : List Int), vs = [.ref p] ∧ H p = some (.lst (xs.map V.int)) ∧ xs.length < 100000 ∧ MemOk ∧ NewI H (schedule xs) Q
section
variable {P : Program} {w : World} {K : PySem.W.Frag} {mg : Str → Option Value} {base : Heap} {c : CA}
variable {σ : L2.St} {H : Hp} {tt : TA} {ta tb : TE} {E : XK} {q : QL} {m : MPlan}
theorem v_pl_steps (T : Txt K mg c) (A : PlanAt c H q m) (h : Val ta σ H (.ref q.p)) : Val (tFld K ta "steps") σ H (.ref q.s) := by
  obtain ⟨dx, ho⟩ := A.ob
  exact val_fld h ho T.c_pl T.a_pl_steps f_pl_steps
theorem v_pl_boots (T : Txt K mg c) (A : PlanAt c H q m) (h : Val ta σ H (.ref q.p)) : Val (tFld K ta "boots") σ H (.ref q.b) := by
  obtain ⟨dx, ho⟩ := A.ob
  exact val_fld h ho T.c_pl T.a_pl_boots f_pl_boots
theorem v_pl_next (T : Txt K mg c) (A : PlanAt c H q m) (h : Val ta σ H (.ref q.p)) : Val (tFld K ta "next_stamp") σ H (.int m.next) := by
  obtain ⟨dx, ho⟩ := A.ob
  exact val_fld h ho T.c_pl T.a_pl_next_stamp f_pl_next_stamp
theorem v_pl_pending (T : Txt K mg c) (A : PlanAt c H q m) (h : Val ta σ H (.ref q.p)) : Val (tFld K ta "pending") σ H (.ref q.e) := by
  obtain ⟨dx, ho⟩ := A.ob
  exact val_fld h ho T.c_pl T.a_pl_pending f_pl_pending
theorem v_npend (T : Txt K mg c) (A : PlanAt c H q m) (h : Val ta σ H (.ref q.p)) : Val (tCB (fun xs H Q => ∃ p ys, xs = [.ref p] ∧ (SqL K H p ys ∨ SqT K H p ys) ∧ Q (.int ys.length) H) (tCons (tFld K ta "pending") tNil)) σ H (.int (m.pending.length : Int)) :=
  v_lenI (v_pl_pending T A h) A.pe
theorem ok_Plan_init {f : Addr} {fd : FuncData} (F : Fun K "__init__" "Plan.__init__" s_Plan_init f fd) (T : Txt K mg c) : FnOk P w K mg base CX0 1 f fd ["self"] (sp_Plan_init K c) := by
  refine F.ok sc_Plan_init (fun vs H Q E h => ?_) (fun cdv A outer s H vs Q E hr h => ?_)
  · obtain ⟨p, dx, rfl, hp, k⟩ := h
    rfl
  obtain ⟨p, dx, rfl, hp, k⟩ := h
  refine ⟨_, (pss_cons (ps_fld (pv 0) (pe_lst pa_nil) rfl)
      (pss_cons (ps_fld (pv 0) (pe_lc (own := [("client", 1)]) (g := gName 1) (tt := tYes) rfl sc_Plan_init.nd (pi_range1 (by rfl) T.z_range (pa_cons (pe_gc T.g_CLIENT_PLACES) pa_nil)) (blkOk_by (own := [("client", 1)]) (N := n_Plan_init) (sc := defScope s_Plan_init) (by decide +kernel)) (fun _ _ _ _ _ => pg_name (i := 1) sc_Plan_init.nd rfl (Or.inl rfl)) (fun _ _ _ _ _ => pts_nil) (fun _ _ _ _ _ => pe_int)) rfl)
      (pss_cons (ps_fld (pv 0) pe_int rfl)
      (pss_one (ps_fld (pv 0) (pe_lst pa_nil) rfl))))), ?_⟩
  refine q_fld0 (fun H => val_var rfl) hp T.c_pl T.a_pl_steps (by decide) fun s hs hsp => ?_
  generalize hH1 : upd (upd H s (.lst [])) p (.ins c.pl dx (putF "steps" (.ref s) [])) = H1
  have hp1 : H1 p = some (.ins c.pl dx (putF "steps" (.ref s) [])) := by rw [← hH1, upd_same]
  have hs1 : H1 s = some (.lst []) := by rw [← hH1, upd_ne hsp, upd_same]
  have m1 : Mv [p] H [p, s] H1 := by
    rw [← hH1]
    exact (((Mv.refl [p] H).lay hs).setI (by simp) (by rw [upd_ne hsp.symm]; exact hp)).drop (by simp)
  refine q_xfld (x_lc_rep (n := 9) (v := .int 0) val_c (by decide) (fun _ _ => val_c) (fun _ => rfl) fun b hb => ?_)
  have hbp : b ≠ p := (ne_of_none hp1 hb).symm
  have hbs : b ≠ s := (ne_of_none hs1 hb).symm
  refine ⟨_, rfl, p, c.pl, dx, _, rfl, by rw [upd_ne hbp.symm]; exact hp1, T.c_pl, T.a_pl_boots, (by show 1 < 1000; decide), ?_⟩
  generalize hH2 : upd (upd H1 b (.lst (List.replicate 9 (V.int 0)))) p (.ins c.pl dx (putF "boots" (.ref b) (putF "steps" (.ref s) []))) = H2
  have hp2 : H2 p = some (.ins c.pl dx (putF "boots" (.ref b) (putF "steps" (.ref s) []))) := by rw [← hH2, upd_same]
  have hb2 : H2 b = some (.lst ((List.replicate 9 (0 : Int)).map V.int)) := by
    rw [← hH2, upd_ne hbp, upd_same]
    rfl
  have hs2 : H2 s = some (.lst []) := by rw [← hH2, upd_ne hsp, upd_ne hbs.symm]; exact hs1
  have m2 : Mv [p] H (b :: [p, s]) H2 := by
    rw [← hH2]
    exact (m1.lay hb).setI (by simp) (by rw [upd_ne hbp.symm]; exact hp1)
  refine q_fld val_c (val_var rfl) hp2 T.c_pl T.a_pl_next_stamp (by show 2 < 1000; decide) ?_
  refine s_fld0 (fun H => val_var rfl) upd_same T.c_pl T.a_pl_pending (by show 3 < 1000; decide) fun e he hep => ?_
  rw [w_pl]
  have he2 : H2 e = none := by
    rw [upd_ne hep] at he
    exact he
  have hes : e ≠ s := (ne_of_none hs2 he2).symm
  have heb : e ≠ b := (ne_of_none hb2 he2).symm
  refine k _ ⟨p, s, b, e⟩ ⟨⟨dx, upd_same⟩, ?_, ?_, ?_, ?_⟩ rfl ?_
  · show upd _ p _ s = _
    rw [upd_ne hsp, upd_ne hes.symm, upd_ne hsp]
    exact hs2
  · show upd _ p _ b = _
    rw [upd_ne hbp, upd_ne heb.symm, upd_ne hbp]
    exact hb2
  · show upd _ p _ e = _
    rw [upd_ne hep, upd_same]
    rfl
  · simp [QL.fp, hsp.symm, hbp.symm, hep.symm, hbs.symm, hes.symm, heb.symm]
  · refine (((m2.setI (by simp) hp2).lay he).setI (by simp) (by rw [upd_ne hep.symm, upd_same])).drop ?_
    intro x hx
    simp only [QL.fp, List.mem_cons, List.not_mem_nil, or_false] at hx ⊢
    grind
theorem ok_Plan_step {f : Addr} {fd : FuncData} (F : Fun K "step" "Plan.step" s_Plan_step f fd) (T : Txt K mg c) : FnOk P w K mg base CX0 1 f fd ["self", "code", "argument"] (sp_Plan_step K c) := by
  refine F.ok sc_Plan_step (fun vs H Q E h => ?_) (fun cdv A outer s H vs Q E hr h => ?_)
  · obtain ⟨q, m, a, b, rfl, A, hz, k⟩ := h
    rfl
  obtain ⟨q, m, a, b, rfl, A, hz, k⟩ := h
  refine ⟨_, (pss_cons (ps_expr (pe_bm PySem.F.plainAttrs_list PySem.F.slot_list_append PySem.F.type_list_append mt_append (pe_fld (pv 0) rfl) (pa_cons (pv 1) pa_nil)))
      (pss_one (ps_expr (pe_bm PySem.F.plainAttrs_list PySem.F.slot_list_append PySem.F.type_list_append mt_append (pe_fld (pv 0) rfl) (pa_cons (pv 2) pa_nil))))), ?_⟩
  refine q_append (v_pl_steps T A (val_var rfl)) A.st (val_var rfl) (by rw [List.length_map]; omega) ?_
  have mv1 : Mv [q.s] H [q.s] (upd H q.s (.lst (m.steps.map V.int ++ [.int a]))) := .updL (by simp) A.st
  have A1 : PlanAt c _ q { m with steps := m.steps ++ [a] } := A.setS (by rw [upd_same, List.map_append]; rfl) mv1
  refine s_append (v_pl_steps T A1 (val_var rfl)) A1.st (val_var rfl) (by rw [List.length_map, List.length_append]; simp only [List.length_cons, List.length_nil]; omega) ?_
  have mv2 : Mv [q.s] _ [q.s] (upd (upd H q.s (.lst (m.steps.map V.int ++ [.int a]))) q.s (.lst ((m.steps ++ [a]).map V.int ++ [.int b]))) := .updL (by simp) A1.st
  have A2 : PlanAt c _ q { m with steps := m.steps ++ [a, b] } := A1.setS (by rw [upd_same]; simp) mv2
  exact k _ A2 ((Mv.in1 (by simp [QL.fp]) mv1).trans (.in1 (by simp [QL.fp]) mv2))
/-- self.step(a, b) -/
theorem x_step {Q : VK} {a b : Int} {o : TE} (ho : Val o σ H (.ref q.p)) (A : PlanAt c H q m) (h : AV tt σ H [.int a, .int b]) (hz : m.steps.length < 500000) (k : ∀ H', PlanAt c H' q (m.step a b) → Mv q.fp H q.fp H' → Q .non H') : tMeth c.pl "step" (sp_Plan_step K c) [] E o tt σ H Q := by
  obtain ⟨dx, hp⟩ := A.ob
  exact x_meth ho hp m_pl_step h ⟨q, m, a, b, rfl, A, hz, k⟩
theorem ok_Plan_boot_up {f : Addr} {fd : FuncData} (F : Fun K "boot_up" "Plan.boot_up" s_Plan_boot_up f fd) (T : Txt K mg c) (D_Plan_step : MethOk P w K mg base c.pl "step" 1 ["self", "code", "argument"] (sp_Plan_step K c)) : FnOk P w K mg base CX0 2 f fd ["self", "client", "boot"] (sp_Plan_boot_up K c) := by
  refine F.ok sc_Plan_boot_up (fun vs H Q E h => ?_) (fun cdv A outer s H vs Q E hr h => ?_)
  · obtain ⟨q, m, cl, b, rfl, A, hz, hb9, h0, h9, hb0, hb10, hbb, k⟩ := h
    rfl
  obtain ⟨q, m, cl, b, rfl, A, hz, hb9, h0, h9, hb0, hb10, hbb, k⟩ := h
  refine ⟨_, (pss_cons (ps_for PassesOwn.never rfl (pi_range2 (by rfl) T.z_range (pa_cons (pe_ix ix_list (pe_fld (pv 0) rfl) (pv 1) (fun _ _ => rfl)) (pa_cons (pv 2) pa_nil))) (pg_name (i := 3) sc_Plan_boot_up.nd rfl (Or.inl rfl)) (pss_cons (ps_expr (pe_methD (pv 0) T.c_pl D_Plan_step (hr.mono (by decide)) (pa_cons (pe_gc T.g_STEP_CRASH_CLIENT) (pa_cons (pv 1) pa_nil))))
      (pss_one (ps_expr (pe_methD (pv 0) T.c_pl D_Plan_step (hr.mono (by decide)) (pa_cons (pe_gc T.g_STEP_RESTART_CLIENT) (pa_cons (pv 1) pa_nil)))))))
      (pss_one (ps_asg (pv 2) (pg_sub (pe_fld (pv 0) rfl) (pv 1) set_list)))), ?_⟩
  obtain ⟨cn, rfl⟩ : ∃ cn : Nat, cl = (cn : Int) := ⟨cl.toNat, by omega⟩
  have hlt : cn < m.boots.length := by omega
  obtain ⟨old, hold⟩ : ∃ old, m.boots[cn]? = some old := ⟨_, List.getElem?_eq_getElem hlt⟩
  have hbt : m.boot (cn : Int) = old := by
    unfold MPlan.boot
    rw [show ((cn : Int)).toNat = cn from rfl, hold]
    rfl
  obtain ⟨ho0, ho10⟩ := hbb old (List.mem_of_getElem? hold)
  refine q_for2 (v_at (i := cn) (v_pl_boots T A (val_var rfl)) (val_var rfl) A.bo hold) (val_var rfl) ⟨by omega, by omega, by omega, by omega⟩ (fun i σ' H' => ∃ v, σ' = [some (.ref q.p), some (.int (cn : Int)), some (.int b), v] ∧ PlanAt c H' q (MPlan.upBy (cn : Int) i m) ∧ Mv q.fp H q.fp H') ⟨none, rfl, A, .refl _ _⟩ ?_ ?_
  · rintro i σ' H' hi ⟨v, rfl, A1, mv1⟩
    have hl := (upBy_facts (cn : Int) m i).1
    refine q_xdrop (x_step (val_var rfl) A1 (av_cons val_c (av_cons (val_var rfl) av_nil)) (by omega) fun H2 A2 mv2 => ?_)
    refine x_drop (x_step (val_var rfl) A2 (av_cons val_c (av_cons (val_var rfl) av_nil)) (by rw [step_len]; omega) fun H3 A3 mv3 => ?_)
    exact ⟨_, rfl, A3, (mv1.trans mv2).trans mv3⟩
  · rintro σ' H' ⟨v, rfl, A1, mv1⟩
    have hbo := (upBy_facts (cn : Int) m (b - old).toNat).2.1
    refine s_setAt (k := cn) (val_var rfl) (v_pl_boots T A1 (val_var rfl)) (val_var rfl) A1.bo (by rw [hbo]; exact hlt) ?_
    have mv2 : Mv [q.b] H' [q.b] (upd H' q.b (.lst (((MPlan.upBy (cn : Int) (b - old).toNat m).boots.set cn b).map V.int))) := .updL (by simp) A1.bo
    have A2 := A1.setB upd_same mv2
    have e : m.bootUp (cn : Int) b = { MPlan.upBy (cn : Int) (b - old).toNat m with boots := (MPlan.upBy (cn : Int) (b - old).toNat m).boots.set cn b } := by
      unfold MPlan.bootUp
      rw [hbt]
      rfl
    rw [e] at k
    exact k _ A2 (mv1.trans (.in1 (by simp [QL.fp]) mv2))
theorem ok_Plan_plan_request {f : Addr} {fd : FuncData} (F : Fun K "plan_request" "Plan.plan_request" s_Plan_plan_request f fd) (T : Txt K mg c) (D_Plan_step : MethOk P w K mg base c.pl "step" 1 ["self", "code", "argument"] (sp_Plan_step K c)) (D_Plan_boot_up : MethOk P w K mg base c.pl "boot_up" 2 ["self", "client", "boot"] (sp_Plan_boot_up K c)) : FnOk P w K mg base CX0 3 f fd ["self", "client", "boot"] (sp_Plan_plan_request K c) := by
  refine F.ok sc_Plan_plan_request (fun vs H Q E h => ?_) (fun cdv A outer s H vs Q E hr h => ?_)
  · obtain ⟨q, m, cl, b, rfl, A, hz, hb9, h0, h9, hb0, hb10, hbb, k⟩ := h
    rfl
  obtain ⟨q, m, cl, b, rfl, A, hz, hb9, h0, h9, hb0, hb10, hbb, k⟩ := h
  refine ⟨_, (pss_cons (ps_expr (pe_methD (pv 0) T.c_pl D_Plan_boot_up (hr.mono (by decide)) (pa_cons (pv 1) (pa_cons (pv 2) pa_nil))))
      (pss_cons (ps_expr (pe_methD (pv 0) T.c_pl D_Plan_step (hr.mono (by decide)) (pa_cons (pe_gc T.g_STEP_REQUEST) (pa_cons (pv 1) pa_nil))))
      (pss_one (ps_expr (pe_methD (pv 0) T.c_pl D_Plan_step (hr.mono (by decide)) (pa_cons (pe_gc T.g_STEP_DROP) (pa_cons (pe_callB call_len_seq (by rfl) T.z_len PySem.boot_len (pa_cons (pe_fld (pv 0) rfl) pa_nil)) pa_nil))))))), ?_⟩
  obtain ⟨dx, hp⟩ := A.ob
  refine q_xdrop (x_meth (val_var rfl) hp m_pl_boot_up (av_cons (val_var rfl) (av_cons (val_var rfl) av_nil)) ⟨q, m, cl, b, rfl, A, hz, hb9, h0, h9, hb0, hb10, hbb, fun H1 A1 mv1 => ?_⟩)
  have hl : (m.bootUp cl b).steps.length ≤ m.steps.length + 40 := by
    show (MPlan.upBy cl (b - m.boot cl).toNat m).steps.length ≤ _
    have := (upBy_facts cl m (b - m.boot cl).toNat).1
    have : 0 ≤ m.boot cl := by
      unfold MPlan.boot
      cases z : m.boots[cl.toNat]? with
      | none => exact Int.le_refl _
      | some x => exact (hbb x (List.mem_of_getElem? z)).1
    omega
  refine q_xdrop (x_step (val_var rfl) A1 (av_cons val_c (av_cons (val_var rfl) av_nil)) (by omega) fun H2 A2 mv2 => ?_)
  refine x_drop (x_step (val_var rfl) A2 (av_cons val_c (av_cons (v_npend T A2 (val_var rfl)) av_nil)) (by rw [step_len]; omega) fun H3 A3 mv3 => ?_)
  exact k H3 A3 ((mv1.trans mv2).trans mv3)
theorem ok_Plan_make_stamp {f : Addr} {fd : FuncData} (F : Fun K "make_stamp" "Plan.make_stamp" s_Plan_make_stamp f fd) (T : Txt K mg c) (D_Plan_step : MethOk P w K mg base c.pl "step" 1 ["self", "code", "argument"] (sp_Plan_step K c)) : FnOk P w K mg base CX0 2 f fd ["self", "client"] (sp_Plan_make_stamp K c) := by
  refine F.ok sc_Plan_make_stamp (fun vs H Q E h => ?_) (fun cdv A outer s H vs Q E hr h => ?_)
  · obtain ⟨q, m, cl, rfl, A, hz, k⟩ := h
    rfl
  obtain ⟨q, m, cl, rfl, A, hz, k⟩ := h
  refine ⟨_, (pss_cons (ps_expr (pe_methD (pv 0) T.c_pl D_Plan_step (hr.mono (by decide)) (pa_cons (pe_gc T.g_STEP_REPEAT) (pa_cons (pv 1) pa_nil))))
      (pss_cons (ps_expr (pe_methD (pv 0) T.c_pl D_Plan_step (hr.mono (by decide)) (pa_cons (pe_gc T.g_STEP_DELIVER) (pa_cons (pe_callB call_len_seq (by rfl) T.z_len PySem.boot_len (pa_cons (pe_fld (pv 0) rfl) pa_nil)) pa_nil))))
      (pss_one (ps_expr (pe_methD (pv 0) T.c_pl D_Plan_step (hr.mono (by decide)) (pa_cons (pe_gc T.g_STEP_FORCE) (pa_cons pe_int pa_nil))))))), ?_⟩
  refine q_xdrop (x_step (val_var rfl) A (av_cons val_c (av_cons (val_var rfl) av_nil)) (by omega) fun H1 A1 mv1 => ?_)
  refine q_xdrop (x_step (val_var rfl) A1 (av_cons val_c (av_cons (v_npend T A1 (val_var rfl)) av_nil)) (by rw [step_len]; omega) fun H2 A2 mv2 => ?_)
  refine x_drop (x_step (val_var rfl) A2 (av_cons val_c (av_cons val_c av_nil)) (by rw [step_len, step_len]; omega) fun H3 A3 mv3 => ?_)
  exact k H3 A3 ((mv1.trans mv2).trans mv3)
theorem ok_Plan_plan_pending {f : Addr} {fd : FuncData} (F : Fun K "plan_pending" "Plan.plan_pending" s_Plan_plan_pending f fd) (T : Txt K mg c) (D_Plan_step : MethOk P w K mg base c.pl "step" 1 ["self", "code", "argument"] (sp_Plan_step K c)) : FnOk P w K mg base CX0 2 f fd ["self", "stamp"] (sp_Plan_plan_pending K c) := by
  refine F.ok sc_Plan_plan_pending (fun vs H Q E h => ?_) (fun cdv A outer s H vs Q E hr h => ?_)
  · obtain ⟨q, m, s0, rfl, A, hz, hz2, hmem, k⟩ := h
    rfl
  obtain ⟨q, m, s0, rfl, A, hz, hz2, hmem, k⟩ := h
  refine ⟨_, (pss_cons (ps_set (i := 2) sc_Plan_plan_pending.nd rfl (Or.inl rfl) (pe_bm PySem.F.plainAttrs_list PySem.F.slot_list_index PySem.F.type_list_index mt_index (pe_fld (pv 0) rfl) (pa_cons (pv 1) pa_nil)))
      (pss_cons (ps_expr (pe_methD (pv 0) T.c_pl D_Plan_step (hr.mono (by decide)) (pa_cons (pe_gc T.g_STEP_DELIVER) (pa_cons (pv 2) pa_nil))))
      (pss_one (ps_expr (pe_bm PySem.F.plainAttrs_list PySem.F.slot_list_pop PySem.F.type_list_pop mt_popAt (pe_fld (pv 0) rfl) (pa_cons (pv 2) pa_nil)))))), ?_⟩
  have hlt : m.pending.idxOf s0 < m.pending.length := List.idxOf_lt_length_of_mem hmem
  have hget : m.pending[m.pending.idxOf s0]? = some s0 := by
    rw [List.getElem?_eq_getElem hlt]
    exact congrArg some (List.getElem_idxOf hlt)
  refine q_xset (x_bm (v_pl_pending T A (val_var rfl)) A.pe (x_cons1 (val_var rfl _ ?_)))
  refine ⟨q.e, m.pending.map V.int, .int s0, m.pending.idxOf s0, .int s0, rfl, rfl, SqL.of A.pe, rfl, flat_ints _, by rw [List.getElem?_map, hget]; rfl, ?_, fun j z hj hz' => ?_, ?_⟩
  · show (s0 == s0) = true
    exact beq_self_eq_true s0
  · rw [List.getElem?_map] at hz'
    cases e : m.pending[j]? with
    | none => rw [e] at hz'; cases hz'
    | some y =>
      rw [e] at hz'
      have ez : z = .int y := (Option.some.inj hz').symm
      subst ez
      show (y == s0) = false
      have hjl : j < m.pending.length := by omega
      rw [List.getElem?_eq_getElem hjl] at e
      have := List.not_of_lt_findIdx (p := (· == s0)) (xs := m.pending) hj
      simp at e this
      rw [← e]
      simpa using this
  · refine q_xdrop (x_step (val_var rfl) A (av_cons val_c (av_cons (val_var rfl) av_nil)) (by omega) fun H1 A1 mv1 => ?_)
    refine x_drop (x_bm (v_pl_pending T A1 (val_var rfl)) A1.pe (x_cons1 (val_var rfl _ ?_)))
    have hlt1 : m.pending.idxOf s0 < (m.step 2 (m.pending.idxOf s0)).pending.length := hlt
    refine ⟨q.e, _, ((m.pending.idxOf s0 : Nat) : Int), m.pending.idxOf s0, .int s0, rfl, rfl, A1.pe, by omega, by omega, ?_, ?_, ?_⟩
    · rw [PySem.seqIndex_of (Int.natCast_nonneg _) (by rw [List.length_map]; omega)]
      rfl
    · rw [List.getElem?_map]
      show (m.pending[m.pending.idxOf s0]?).map V.int = _
      rw [hget]
      rfl
    · have mv2 : Mv [q.e] H1 [q.e] (upd H1 q.e (.lst ((m.pending.map V.int).eraseIdx (m.pending.idxOf s0)))) := .updL (by simp) A1.pe
      have A2 : PlanAt c _ q { m.step 2 (m.pending.idxOf s0) with pending := m.pending.eraseIdx (m.pending.idxOf s0) } := A1.setE (by rw [upd_same, map_erase]) mv2
      exact k _ A2 (mv1.trans (.in1 (by simp [QL.fp]) mv2))
/-- self.make_stamp(client) -/
theorem x_make_stamp {Q : VK} {a : Int} {o : TE} (ho : Val o σ H (.ref q.p)) (A : PlanAt c H q m) (h : AV tt σ H [.int a]) (hz : m.steps.length < 450000) (k : ∀ H', PlanAt c H' q (m.makeStamp a) → Mv q.fp H q.fp H' → Q .non H') : tMeth c.pl "make_stamp" (sp_Plan_make_stamp K c) [] E o tt σ H Q := by
  obtain ⟨dx, hp⟩ := A.ob
  exact x_meth ho hp m_pl_make_stamp h ⟨q, m, a, rfl, A, hz, k⟩
theorem make_len (m : MPlan) (a : Int) : (m.makeStamp a).steps.length = m.steps.length + 6 := by
  unfold MPlan.makeStamp
  rw [step_len, step_len, step_len]
theorem ok_Plan_pass_stamp {f : Addr} {fd : FuncData} (F : Fun K "pass_stamp" "Plan.pass_stamp" s_Plan_pass_stamp f fd) (T : Txt K mg c) (D_Plan_make_stamp : MethOk P w K mg base c.pl "make_stamp" 2 ["self", "client"] (sp_Plan_make_stamp K c)) (D_Plan_step : MethOk P w K mg base c.pl "step" 1 ["self", "code", "argument"] (sp_Plan_step K c)) : FnOk P w K mg base CX0 3 f fd ["self", "stamp", "owner", "client"] (sp_Plan_pass_stamp K c) := by
  refine F.ok sc_Plan_pass_stamp (fun vs H Q E h => ?_) (fun cdv A outer s H vs Q E hr h => ?_)
  · obtain ⟨q, m, s0, o, cl, rfl, A, hz, hz2, k⟩ := h
    rfl
  obtain ⟨q, m, s0, o, cl, rfl, A, hz, hz2, k⟩ := h
  refine ⟨_, (pss_one (ps_if (pt_cmpR op_ne (pv 2) pe_int (nomark _)) (pss_cons (ps_expr (pe_methD (pv 0) T.c_pl D_Plan_make_stamp (hr.mono (by decide)) (pa_cons (pv 2) pa_nil)))
      (pss_one (ps_expr (pe_bm PySem.F.plainAttrs_list PySem.F.slot_list_append PySem.F.type_list_append mt_append (pe_fld (pv 0) rfl) (pa_cons (pv 1) pa_nil))))) (pss_cons (ps_expr (pe_methD (pv 0) T.c_pl D_Plan_make_stamp (hr.mono (by decide)) (pa_cons (pv 3) pa_nil)))
      (pss_one (ps_expr (pe_methD (pv 0) T.c_pl D_Plan_step (hr.mono (by decide)) (pa_cons (pe_gc T.g_STEP_DROP) (pa_cons (pe_callB call_len_seq (by rfl) T.z_len PySem.boot_len (pa_cons (pe_fld (pv 0) rfl) pa_nil)) pa_nil)))))))), ?_⟩
  refine s_if (a_val (v_ne (val_var rfl) val_c)) (fun h => ?_) (fun h => ?_)
  · have e : o ≠ 0 := by simpa using h
    rw [show m.passStamp s0 o cl = { m.makeStamp o with pending := m.pending ++ [s0] } from if_pos e] at k
    refine q_xdrop (x_make_stamp (val_var rfl) A (av_cons (val_var rfl) av_nil) (by omega) fun H1 A1 mv1 => ?_)
    refine s_append (v_pl_pending T A1 (val_var rfl)) A1.pe (val_var rfl) (by rw [List.length_map]; show m.pending.length < _; omega) ?_
    have mv2 : Mv [q.e] H1 [q.e] (upd H1 q.e (.lst ((m.makeStamp o).pending.map V.int ++ [.int s0]))) := .updL (by simp) A1.pe
    exact k _ (A1.setE (by rw [upd_same]; show _ = some (HO.lst ((m.pending ++ [s0]).map V.int)); rw [List.map_append]; rfl) mv2) (mv1.trans (.in1 (by simp [QL.fp]) mv2))
  · have e : ¬ o ≠ 0 := by simpa using h
    rw [show m.passStamp s0 o cl = (m.makeStamp cl).step 3 m.pending.length from if_neg e] at k
    refine q_xdrop (x_make_stamp (val_var rfl) A (av_cons (val_var rfl) av_nil) (by omega) fun H1 A1 mv1 => ?_)
    refine x_drop (x_step (val_var rfl) A1 (av_cons val_c (av_cons (v_npend T A1 (val_var rfl)) av_nil)) (by rw [make_len]; omega) fun H2 A2 mv2 => ?_)
    exact k H2 A2 (mv1.trans mv2)
theorem ownerOf_none {es : List M5} {s : Int} (h : ∀ e ∈ es, ¬ (e.k = 1 ∧ e.s = s)) : ownerOf es s = 0 := by
  induction es with
  | nil => rfl
  | cons e r ih =>
    show (if e.k = 1 ∧ e.s = s then e.c else ownerOf r s) = 0
    rw [if_neg (h e (List.mem_cons_self ..)), ih fun x hx => h x (List.mem_cons_of_mem _ hx)]
theorem ownerOf_at {es : List M5} {s : Int} : ∀ (i : Nat) (e : M5), es[i]? = some e → e.k = 1 ∧ e.s = s → (∀ j e', j < i → es[j]? = some e' → ¬ (e'.k = 1 ∧ e'.s = s)) → ownerOf es s = e.c := by
  induction es with
  | nil => intro i e h; simp at h
  | cons x r ih =>
    intro i e h hs hn
    show (if x.k = 1 ∧ x.s = s then x.c else ownerOf r s) = e.c
    cases i with
    | zero =>
      simp at h
      subst h
      rw [if_pos hs]
    | succ i =>
      rw [if_neg (hn 0 x (Nat.succ_pos _) rfl)]
      exact ih i e (by simpa using h) hs fun j e' hj he' => hn (j + 1) e' (by omega) (by simpa using he')
/-- the item of a row of events, in a loop over them -/
theorem v_it {t : Addr} {e : M5} {j : Nat} {z : Int} (ha : Val ta σ H (.ref t)) (ht : H t = some (.tup (e.row.map V.int))) (hz : e.row[j]? = some z) : Val (tOp (rIxT K) ta (tC (.int (j : Int)))) σ H (.int z) :=
  v_ixT ha val_c (SqT.of ht) (get_atI (k := j) rfl (by rw [List.getElem?_map, hz]; rfl))
theorem ok_owner_of {f : Addr} {fd : FuncData} (F : Fun K "owner_of" "owner_of" s_owner_of f fd) (T : Txt K mg c) : FnOk P w K mg base CX0 1 f fd ["events", "stamp"] (sp_owner_of K c) := by
  refine F.ok sc_owner_of (fun vs H Q E h => ?_) (fun cdv A outer s H vs Q E hr h => ?_)
  · obtain ⟨p, es, s0, rfl, R, k⟩ := h
    rfl
  obtain ⟨p, es, s0, rfl, R, k⟩ := h
  refine ⟨_, (pss_cons (ps_for PassesOwn.never rfl (pi_list (pv 0)) (pg_name (i := 2) sc_owner_of.nd rfl (Or.inl rfl)) (pss_one (ps_if (PW.pt (pw_and (pt_cmpR op_eq (pe_ix ix_tup (pv 2) pe_int (fun _ _ => rfl)) (pe_gc T.g_RECEIPT_scheduler) (nomark _)) (pw_and1 (pt_cmpR op_eq (pe_ix ix_tup (pv 2) pe_int (fun _ _ => rfl)) (pv 1) (nomark _))))) (pss_one (ps_ret (pe_ix ix_tup (pv 2) pe_int (fun _ _ => rfl)))) pss_nil)))
      (pss_one (ps_ret pe_int))), ?_⟩
  obtain ⟨as, h1, h2⟩ := R
  refine tFor_list (val_var rfl) (SqL.of h1) (fun i σ' H' => ∃ v, σ' = [some (.ref p), some (.int s0), v] ∧ H' = H ∧ ∀ j e, j < i → es[j]? = some e → ¬ (e.k = 1 ∧ e.s = s0)) ⟨none, rfl, rfl, fun j e hj => absurd hj (Nat.not_lt_zero _)⟩ ?_ ?_ ?_
  · rintro i σ' H' _ ⟨v, rfl, rfl, _⟩
    exact SqL.of h1
  · rintro i x σ' H' hx ⟨v, rfl, rfl, hn⟩
    have hi : i < es.length := by
      have z := (List.getElem?_eq_some_iff.mp hx).1
      rw [List.length_map, h2.len, List.length_map] at z
      exact z
    obtain ⟨e, he, _⟩ := ev_get hi
    obtain ⟨a, ha, hat⟩ := h2.get (i := i) (r := e.row) (by rw [List.getElem?_map, he]; rfl)
    have hxa : x = .ref a := by
      rw [List.getElem?_map, ha] at hx
      exact (Option.some.inj hx).symm
    subst hxa
    refine s_if (a_and (a_val (v_eq (v_it (j := 0) (val_var rfl) hat rfl) val_c)) fun _ => a_val (v_eq (v_it (j := 4) (val_var rfl) hat rfl) (val_var rfl))) (fun h => ?_) (fun h => ?_)
    · have q : e.k = 1 ∧ e.s = s0 := by simpa using h
      rw [ownerOf_at i e he q hn] at k
      exact st_ret (v_it (j := 1) (val_var rfl) hat rfl) k
    · have q : ¬ (e.k = 1 ∧ e.s = s0) := by simpa using h
      refine ⟨_, rfl, rfl, fun j e' hj he' => ?_⟩
      by_cases z : j = i
      · rw [z, he] at he'
        rw [← Option.some.inj he']
        exact q
      · exact hn j e' (by omega) he'
  · rintro σ' H' ⟨v, rfl, rfl, hn⟩
    rw [ownerOf_none fun e he => ?_] at k
    · exact st_ret val_c k
    · obtain ⟨j, hj⟩ := List.mem_iff_getElem?.mp he
      refine hn j e ?_ hj
      rw [List.length_map, h2.len, List.length_map]
      exact (List.getElem?_eq_some_iff.mp hj).1
theorem ok_is_too_large {f : Addr} {fd : FuncData} (F : Fun K "is_too_large" "is_too_large" s_is_too_large f fd) (T : Txt K mg c) : FnOk P w K mg base CX0 1 f fd ["events"] (sp_is_too_large K c) := by
  refine F.ok sc_is_too_large (fun vs H Q E h => ?_) (fun cdv A outer s H vs Q E hr h => ?_)
  · obtain ⟨p, es, rfl, R, k⟩ := h
    rfl
  obtain ⟨p, es, rfl, R, k⟩ := h
  refine ⟨_, (pss_cons (ps_for PassesOwn.never rfl (pi_list (pv 0)) (pg_name (i := 1) sc_is_too_large.nd rfl (Or.inl rfl)) (pss_one (ps_if (PW.pt (pw_or (pt_cmpR op_gt (pe_ix ix_tup (pv 1) pe_int (fun _ _ => rfl)) (pe_gc T.g_MOST_BOOT) (nomark _)) (pw_or1 (pt_cmpR op_gt (pe_ix ix_tup (pv 1) pe_int (fun _ _ => rfl)) (pe_gc T.g_MOST_STAMP) (nomark _))))) (pss_one (ps_ret pe_bl)) pss_nil)))
      (pss_one (ps_ret pe_bl))), ?_⟩
  obtain ⟨as, h1, h2⟩ := R
  refine tFor_list (val_var rfl) (SqL.of h1) (fun i σ' H' => ∃ v, σ' = [some (.ref p), v] ∧ H' = H ∧ isTooLarge (es.take i) = false) ⟨none, rfl, rfl, rfl⟩ ?_ ?_ ?_
  · rintro i σ' H' _ ⟨v, rfl, rfl, _⟩
    exact SqL.of h1
  · rintro i x σ' H' hx ⟨v, rfl, rfl, hn⟩
    have hi : i < es.length := by
      have z := (List.getElem?_eq_some_iff.mp hx).1
      rw [List.length_map, h2.len, List.length_map] at z
      exact z
    obtain ⟨e, he, _⟩ := ev_get hi
    obtain ⟨a, ha, hat⟩ := h2.get (i := i) (r := e.row) (by rw [List.getElem?_map, he]; rfl)
    have hxa : x = .ref a := by
      rw [List.getElem?_map, ha] at hx
      exact (Option.some.inj hx).symm
    subst hxa
    have key : isTooLarge (es.take (i + 1)) = (decide (10 < e.b) || decide (100 < e.s)) := by
      unfold isTooLarge at hn ⊢
      rw [List.take_add_one, he, List.any_append, hn]
      simp
    refine s_if (a_or (a_val (v_gt (v_it (j := 2) (val_var rfl) hat rfl) val_c)) fun _ => a_val (v_gt (v_it (j := 4) (val_var rfl) hat rfl) val_c)) (fun h => ?_) (fun h => ?_)
    · rw [h] at key
      have e2 : isTooLarge es = true := by
        unfold isTooLarge at key ⊢
        rw [← List.take_append_drop (i + 1) es, List.any_append, key]
        rfl
      rw [e2] at k
      exact st_ret val_c k
    · rw [h] at key
      exact ⟨_, rfl, rfl, key⟩
  · rintro σ' H' ⟨v, rfl, rfl, hn⟩
    rw [List.take_of_length_le (by rw [List.length_map, h2.len, List.length_map]; exact Nat.le_refl _)] at hn
    rw [hn] at k
    exact st_ret val_c k
theorem ok_Plan_plan_new {f : Addr} {fd : FuncData} (F : Fun K "plan_new" "Plan.plan_new" s_Plan_plan_new f fd) (T : Txt K mg c) (D_Plan_step : MethOk P w K mg base c.pl "step" 1 ["self", "code", "argument"] (sp_Plan_step K c)) (D_Plan_make_stamp : MethOk P w K mg base c.pl "make_stamp" 2 ["self", "client"] (sp_Plan_make_stamp K c)) (D_Plan_pass_stamp : MethOk P w K mg base c.pl "pass_stamp" 3 ["self", "stamp", "owner", "client"] (sp_Plan_pass_stamp K c)) (D_owner_of : DefOk P w K mg base "owner_of" 1 ["events", "stamp"] (sp_owner_of K c)) : FnOk P w K mg base CX0 4 f fd ["self", "events", "client", "stamp"] (sp_Plan_plan_new K c) := by
  refine F.ok sc_Plan_plan_new (fun vs H Q E h => ?_) (fun cdv A outer s H vs Q E hr h => ?_)
  · obtain ⟨q, m, p, es, cl, s0, rfl, A, R, hp, hz, hz2, hn1, hn2, hs0, hs1, k⟩ := h
    rfl
  obtain ⟨q, m, p, es, cl, s0, rfl, A, R, hp, hz, hz2, hn1, hn2, hs0, hs1, k⟩ := h
  refine ⟨_, (pss_cons (ps_for PassesOwn.never rfl (pi_range2 (by rfl) T.z_range (pa_cons (pe_fld (pv 0) rfl) (pa_cons (pv 3) pa_nil))) (pg_name (i := 4) sc_Plan_plan_new.nd rfl (Or.inl rfl)) (pss_one (ps_expr (pe_methD (pv 0) T.c_pl D_Plan_pass_stamp (hr.mono (by decide)) (pa_cons (pv 4) (pa_cons (pe_callD D_owner_of (hr.mono (by decide)) (pa_cons (pv 1) (pa_cons (pv 4) pa_nil))) (pa_cons (pv 2) pa_nil)))))))
      (pss_cons (ps_expr (pe_methD (pv 0) T.c_pl D_Plan_make_stamp (hr.mono (by decide)) (pa_cons (pv 2) pa_nil)))
      (pss_cons (ps_expr (pe_methD (pv 0) T.c_pl D_Plan_step (hr.mono (by decide)) (pa_cons (pe_gc T.g_STEP_DELIVER) (pa_cons (pe_callB call_len_seq (by rfl) T.z_len PySem.boot_len (pa_cons (pe_fld (pv 0) rfl) pa_nil)) pa_nil))))
      (pss_one (ps_fld (pv 0) (pe_op op_add (pv 3) pe_int) rfl))))), ?_⟩
  refine q_for2 (v_pl_next T A (val_var rfl)) (val_var rfl) ⟨by omega, by omega, by omega, by omega⟩ (fun d σ' H' => ∃ v, σ' = [some (.ref q.p), some (.ref p), some (.int cl), some (.int s0), v] ∧ PlanAt c H' q (MPlan.passBy es cl m.next d m) ∧ Mv q.fp H q.fp H') ⟨none, rfl, A, .refl _ _⟩ ?_ ?_
  · rintro d σ' H' hd ⟨v, rfl, A1, mv1⟩
    obtain ⟨f1, f2, f3, f4⟩ := passBy_facts es cl m.next m d
    obtain ⟨dx, hq⟩ := A1.ob
    have R1 := mv1.rows R hp
    refine x_drop (x_meth (val_var rfl) hq m_pl_pass_stamp (av_cons (val_var rfl) (av_cons (v_call (av_cons (val_var rfl) (av_cons (val_var rfl) av_nil)) fun Q z => ⟨p, es, m.next + (d : Int), rfl, R1, z⟩) (av_cons (val_var rfl) av_nil))) ?_)
    exact ⟨q, _, m.next + (d : Int), ownerOf es (m.next + (d : Int)), cl, rfl, A1, by omega, by omega, fun H2 A2 mv2 => ⟨_, rfl, A2, mv1.trans mv2⟩⟩
  · rintro σ' H' ⟨v, rfl, A1, mv1⟩
    obtain ⟨f1, f2, f3, f4⟩ := passBy_facts es cl m.next m (s0 - m.next).toNat
    refine q_xdrop (x_make_stamp (val_var rfl) A1 (av_cons (val_var rfl) av_nil) (by omega) fun H2 A2 mv2 => ?_)
    refine q_xdrop (x_step (val_var rfl) A2 (av_cons val_c (av_cons (v_npend T A2 (val_var rfl)) av_nil)) (by rw [make_len]; omega) fun H3 A3 mv3 => ?_)
    obtain ⟨dx, hq⟩ := A3.ob
    refine s_fld (v_add (val_var rfl) val_c) (val_var rfl) hq T.c_pl T.a_pl_next_stamp l_pl ?_
    rw [p_pl_next_stamp]
    have mv4 : Mv [q.p] H3 [q.p] (upd H3 q.p (.ins c.pl dx (f_pl (.ref q.s) (.ref q.b) (.int (s0 + 1)) (.ref q.e)))) := .updI (by simp) hq
    exact k _ (A3.setN upd_same mv4) (((mv1.trans mv2).trans mv3).trans (.in1 (by simp [QL.fp]) mv4))
theorem ok_planned {f : Addr} {fd : FuncData} (F : Fun K "planned" "planned" s_planned f fd) (T : Txt K mg c) (D_Plan_plan_request : MethOk P w K mg base c.pl "plan_request" 3 ["self", "client", "boot"] (sp_Plan_plan_request K c)) (D_Plan_plan_pending : MethOk P w K mg base c.pl "plan_pending" 2 ["self", "stamp"] (sp_Plan_plan_pending K c)) (D_Plan_plan_new : MethOk P w K mg base c.pl "plan_new" 4 ["self", "events", "client", "stamp"] (sp_Plan_plan_new K c)) (D_Plan_init : MakeOk P w K mg base "Plan" c.pl 1 ["self"] (sp_Plan_init K c)) : FnOk P w K mg base CX0 5 f fd ["events"] (sp_planned K c) := by
  refine F.ok sc_planned (fun vs H Q E h => ?_) (fun cdv A outer s H vs Q E hr h => ?_)
  · obtain ⟨p, es, rfl, R, hz, hok, hmem, k⟩ := h
    rfl
  obtain ⟨p, es, rfl, R, hz, hok, hmem, k⟩ := h
  refine ⟨_, (pss_cons (ps_set (i := 1) sc_planned.nd rfl (Or.inl rfl) (pe_makeD0 D_Plan_init (hr.mono (by decide))))
      (pss_cons (ps_for PassesOwn.never rfl (pi_list (pv 0)) (pg_tup rfl (pgs_cons (pg_name (i := 2) sc_planned.nd rfl (Or.inl rfl)) (pgs_cons (pg_name (i := 3) sc_planned.nd rfl (Or.inl rfl)) (pgs_cons (pg_name (i := 4) sc_planned.nd rfl (Or.inl rfl)) (pgs_cons (pg_name (i := 5) sc_planned.nd rfl (Or.inl rfl)) (pgs_cons (pg_name (i := 6) sc_planned.nd rfl (Or.inl rfl)) pgs_nil)))))) (pss_one (ps_if (pt_cmpR op_eq (pv 2) (pe_gc T.g_REQUEST_scheduler) (nomark _)) (pss_one (ps_expr (pe_methD (pv 1) T.c_pl D_Plan_plan_request (hr.mono (by decide)) (pa_cons (pv 3) (pa_cons (pv 4) pa_nil))))) (pss_one (ps_if (pt_cmpR op_lt (pv 6) (pe_fld (pv 1) rfl) (nomark _)) (pss_one (ps_expr (pe_methD (pv 1) T.c_pl D_Plan_plan_pending (hr.mono (by decide)) (pa_cons (pv 6) pa_nil)))) (pss_one (ps_expr (pe_methD (pv 1) T.c_pl D_Plan_plan_new (hr.mono (by decide)) (pa_cons (pv 0) (pa_cons (pv 3) (pa_cons (pv 6) pa_nil)))))))))))
      (pss_one (ps_ret (pe_fld (pv 1) rfl))))), ?_⟩
  refine q_xset (x_make av_nil fun x dx nx ndx nex s0 => ?_)
  refine ⟨x, dx, rfl, upd_same, fun H1 q A hqx mv => ⟨rfl, ?_⟩⟩
  obtain ⟨s1, fr⟩ := made nx s0 mv
  obtain ⟨as, h1, h2⟩ := id R
  have R1 := Tz.Same.rows s1 R
  have h11 := s1 _ _ h1
  have h21 := Tz.Same.tups s1 h2
  have np : p ∉ q.fp := fun z => by
    have := fr p z
    rw [h1] at this
    cases this
  rw [← hqx]
  refine tFor_list (val_var rfl) (SqL.of h11) (fun i σ' H' => ∃ v1 v2 v3 v4 v5, σ' = [some (.ref p), some (.ref q.p), v1, v2, v3, v4, v5] ∧ PlanAt c H' q ((es.take i).foldl (planOn es) MPlan.fresh) ∧ Mv q.fp H1 q.fp H') ⟨none, none, none, none, none, rfl, A, .refl _ _⟩ ?_ ?_ ?_
  · rintro i σ' H' _ ⟨_, _, _, _, _, rfl, _, mv1⟩
    exact SqL.of (mv1.get h11 np)
  · rintro i x σ' H' hx ⟨v1, v2, v3, v4, v5, rfl, A1, mv1⟩
    have hi : i < es.length := by
      have z := (List.getElem?_eq_some_iff.mp hx).1
      rw [List.length_map, h21.len, List.length_map] at z
      exact z
    obtain ⟨e, he, _⟩ := ev_get hi
    obtain ⟨a, ha, hat⟩ := h21.get (i := i) (r := e.row) (by rw [List.getElem?_map, he]; rfl)
    have hxa : x = .ref a := by
      rw [List.getElem?_map, ha] at hx
      exact (Option.some.inj hx).symm
    subst hxa
    have hat1 := mv1.tup hat
    have fit := fold_fit (es := es) (es.take i) 0 MPlan.fresh fresh_fit fun y hy => hok y (List.mem_of_mem_take hy)
    rw [List.length_take, Nat.zero_add] at fit
    have hmin : min i es.length ≤ 100 := by omega
    have eok := hok e (List.mem_of_getElem? he)
    have hm := hmem i e he
    have more : (es.take (i + 1)).foldl (planOn es) MPlan.fresh = planOn es ((es.take i).foldl (planOn es) MPlan.fresh) e := by
      rw [List.take_add_one, he, Option.toList_some, List.foldl_append]
      rfl
    rw [more]
    generalize (es.take i).foldl (planOn es) MPlan.fresh = m at *
    obtain ⟨f1, f2, f3, f4, f5⟩ := fit
    obtain ⟨k1, k2, k3, k4, k5, k6⟩ := eok
    have f1' : m.steps.length < 400000 := by
      have : 2000 * min i es.length ≤ 200000 := by omega
      omega
    have f2' : m.pending.length < 400000 := by
      have : 200 * min i es.length ≤ 20000 := by omega
      omega
    refine ⟨a, _, rfl, SqT.of hat1, rfl, _, _, rfl, _, _, rfl, _, _, rfl, _, _, rfl, _, _, rfl, rfl, ?_⟩
    obtain ⟨dq, hq⟩ := A1.ob
    refine s_if (a_val (v_eq (i := e.k) (val_var rfl) val_c)) (fun h => ?_) (fun h => ?_)
    · rw [show planOn es m e = m.planRequest e.c e.b from if_pos (of_decide_eq_true h)]
      refine x_drop (x_meth (val_var rfl) hq m_pl_plan_request (av_cons (val_var rfl) (av_cons (val_var rfl) av_nil)) ?_)
      exact ⟨q, m, e.c, e.b, rfl, A1, f1', f3, by omega, by omega, k3, k4, f5, fun H2 A2 mv2 => ⟨_, _, _, _, _, rfl, A2, mv1.trans mv2⟩⟩
    · have hk : ¬ e.k = 0 := of_decide_eq_false h
      refine s_if (a_val (v_lt (i := e.s) (val_var rfl) (v_pl_next T A1 (val_var rfl)))) (fun h3 => ?_) (fun h3 => ?_)
      · have hs := of_decide_eq_true h3
        rw [show planOn es m e = m.planPending e.s from (if_neg hk).trans (if_pos hs)]
        refine x_drop (x_meth (val_var rfl) hq m_pl_plan_pending (av_cons (val_var rfl) av_nil) ?_)
        exact ⟨q, m, e.s, rfl, A1, f1', f2', hm hk hs, fun H2 A2 mv2 => ⟨_, _, _, _, _, rfl, A2, mv1.trans mv2⟩⟩
      · have hs := of_decide_eq_false h3
        rw [show planOn es m e = m.planNew es e.c e.s from (if_neg hk).trans (if_neg hs)]
        refine x_drop (x_meth (val_var rfl) hq m_pl_plan_new (av_cons (val_var rfl) (av_cons (val_var rfl) (av_cons (val_var rfl) av_nil))) ?_)
        exact ⟨q, m, p, es, e.c, e.s, rfl, A1, mv1.rows R1 np, np, f1', f2', f4.1, f4.2, k5, k6, fun H2 A2 mv2 => ⟨_, _, _, _, _, rfl, A2, mv1.trans mv2⟩⟩
  · rintro σ' H' ⟨v1, v2, v3, v4, v5, rfl, A1, mv1⟩
    rw [List.take_of_length_le (by rw [List.length_map, h21.len, List.length_map]; exact Nat.le_refl _)] at A1
    refine st_ret (v_pl_steps T A1 (val_var rfl)) (k H' q.s ?_ ?_ A1.st)
    · intro b o e
      refine mv1.get (s1 _ _ e) fun z => ?_
      have := fr b z
      rw [e] at this
      cases this
    · exact fr q.s (by simp [QL.fp])
theorem evok_of {xs : List Int} (h : isEventList xs = true) (h2 : isTooLarge (fives xs) = false) : ∀ e ∈ fives xs, EvOk e := by
  intro e he
  unfold isEventList at h
  simp only [Bool.and_eq_true, List.all_eq_true] at h
  have z := h.2 e he
  unfold isTooLarge at h2
  have z2 := List.any_eq_false.mp h2 e he
  simp only [Bool.or_eq_true, decide_eq_true_eq] at z2
  unfold M5.ok isEvent at z
  split at z
  · cases z
  · split at z
    · cases z
    · split at z
      · cases z
      · refine ⟨?_, ?_, ?_, ?_, ?_, ?_⟩ <;> omega
theorem verdict_cons (es : List M5) : ∀ m a, ∃ z zs, verdictFrom es a m = z :: zs
  | 0, a => ⟨_, _, rfl⟩
  | m + 1, a => by
    show ∃ z zs, (if faultOf es a ≠ 0 then [faultOf es a, (a : Int)] else verdictFrom es (a + 1) m) = z :: zs
    split
    · exact ⟨_, _, rfl⟩
    · exact verdict_cons es m (a + 1)
theorem ok_schedule {f : Addr} {fd : FuncData} (F : Fun K "schedule" "schedule" s_schedule f fd) (T : Txt K mg c) (D_planned : DefOk P w K mg base "planned" 5 ["events"] (sp_planned K c)) (D_is_too_large : DefOk P w K mg base "is_too_large" 1 ["events"] (sp_is_too_large K c)) (D_verdict : DefOk P w K mg base "verdict" 4 ["events"] (sp_verdict K c)) (D_events_of : DefOk P w K mg base "events_of" 1 ["numbers"] (sp_events_of K c)) (D_is_event_list : DefOk P w K mg base "is_event_list" 2 ["numbers"] (sp_is_event_list K c)) : FnOk P w K mg base CX0 6 f fd ["numbers"] (sp_schedule K c) := by
  refine F.ok sc_schedule (fun vs H Q E h => ?_) (fun cdv A outer s H vs Q E hr h => ?_)
  · obtain ⟨p, xs, rfl, hl, hz, hmo, k⟩ := h
    rfl
  obtain ⟨p, xs, rfl, hl, hz, hmo, k⟩ := h
  refine ⟨_, (pss_cons (ps_if (PW.pt (pw_or (pt_cmpR op_gt (pe_callB call_len_seq (by rfl) T.z_len PySem.boot_len (pa_cons (pv 0) pa_nil)) (pe_gc T.g_MOST_SCHEDULED) (nomark _)) (pw_or1 (pt_not (pt_val (pe_callD D_is_event_list (hr.mono (by decide)) (pa_cons (pv 0) pa_nil))))))) (pss_one (ps_ret (pe_lst (pa_cons (pe_un un_neg pe_int) pa_nil)))) pss_nil)
      (pss_cons (ps_set (i := 1) sc_schedule.nd rfl (Or.inl rfl) (pe_callD D_events_of (hr.mono (by decide)) (pa_cons (pv 0) pa_nil)))
      (pss_cons (ps_if (pt_cmpR op_ne (pe_ix ix_list (pe_callD D_verdict (hr.mono (by decide)) (pa_cons (pv 1) pa_nil)) pe_int (fun _ _ => rfl)) pe_int (nomark _)) (pss_one (ps_ret (pe_lst (pa_cons (pe_un un_neg pe_int) pa_nil)))) pss_nil)
      (pss_cons (ps_if (pt_val (pe_callD D_is_too_large (hr.mono (by decide)) (pa_cons (pv 1) pa_nil))) (pss_one (ps_ret (pe_lst (pa_cons (pe_un un_neg pe_int) pa_nil)))) pss_nil)
      (pss_cons (ps_set (i := 2) sc_schedule.nd rfl (Or.inl rfl) (pe_callD D_planned (hr.mono (by decide)) (pa_cons (pv 1) pa_nil)))
      (pss_one (ps_ret (pe_op op_cat (pe_lst (pa_cons (pe_op op_fdiv (pe_callB call_len_seq (by rfl) T.z_len PySem.boot_len (pa_cons (pv 2) pa_nil)) pe_int) pa_nil)) (pv 2))))))))), ?_⟩
  refine q_ifn (b := decide (200 < xs.length) || !isEventList xs) (a_to (a_or (a_val (v_gt (v_lenI (val_var rfl) hl) val_c)) fun _ => a_not (a_B (v_call (av_cons (val_var rfl) av_nil) fun Q q => ⟨p, xs, rfl, hl, hz, q⟩))) (by congr 1; exact decide_eq_decide.mpr (by omega))) (fun h => ?_) (fun h => ?_)
  · have e : 200 < xs.length ∨ isEventList xs = false := by simpa using h
    rw [show schedule xs = [-6] from if_pos e] at k
    exact s_retL (av_cons (v_neg val_c) av_nil) fun r hr => k.here hr
  · have e : ¬ (200 < xs.length ∨ isEventList xs = false) := by
      intro q
      rcases q with q | q
      · simp [q] at h
      · simp [q] at h
    have ek : schedule xs = if (verdict (fives xs)).headD 0 ≠ 0 then [-7] else if isTooLarge (fives xs) = true then [-8] else ((planned (fives xs)).length / 2 : Int) :: planned (fives xs) := if_neg e
    rw [ek] at k
    have he : isEventList xs = true := by
      cases q : isEventList xs with
      | true => rfl
      | false => exact absurd (.inr q) e
    have hlen := fives_len xs (evl_len5 he)
    refine q_xset (x_call (av_cons (val_var rfl) av_nil) ?_)
    refine ⟨p, xs, rfl, hl, hz, evl_len5 he, fun H1 q s1 hq R => ?_⟩
    obtain ⟨z, zs, hv⟩ := verdict_cons (fives xs) (fives xs).length 0
    have hv' : verdict (fives xs) = z :: zs := hv
    have k1 := k.same s1
    have hh : (verdict (fives xs)).headD 0 = z := by rw [hv']; rfl
    rw [hh] at k1
    refine q_ifH (b := !decide (z = 0)) (p := Same H1) (fun Q2 q2 => ?_) (fun h2 H2 s2 => ?_) (fun h2 H2 s2 => ?_)
    · refine x_call (av_cons (val_var rfl) av_nil) ⟨q, fives xs, rfl, R, by omega, fun H2 r s2 hr hi => ?_⟩
      unfold Ints at hi
      rw [hv'] at hi
      refine ⟨r, _, 0, .int z, rfl, rfl, SqL.of hi, get_atI (k := 0) rfl rfl, ?_⟩
      refine ⟨rfl, _, rfl, ?_⟩
      rw [dec_int]
      exact q2 H2 s2
    · rw [if_pos (by simpa using h2)] at k1
      exact s_retL (av_cons (v_neg val_c) av_nil) fun r hr => (k1.same s2).here hr
    · have hz0 : z = 0 := by simpa using h2
      rw [if_neg (by simpa using h2)] at k1
      have R2 := Tz.Same.rows s2 R
      refine q_ifn (a_B (v_call (av_cons (val_var rfl) av_nil) fun Q z => ⟨q, fives xs, rfl, R2, z⟩)) (fun h3 => ?_) (fun h3 => ?_)
      · rw [if_pos h3] at k1
        exact s_retL (av_cons (v_neg val_c) av_nil) fun r hr => (k1.same s2).here hr
      · rw [if_neg (by rw [h3]; decide)] at k1
        refine q_xset (x_call (av_cons (val_var rfl) av_nil) ?_)
        refine ⟨q, fives xs, rfl, R2, by omega, evok_of he h3, hmo xs he (by rw [hh]; exact hz0), fun H3 t s3 ht hi => ?_⟩
        refine x_ret (x_op (x_lst (av_cons (v_fdiv ⟨by decide, by decide⟩ (v_lenI (val_var rfl) hi) val_c) av_nil) fun r hr => ?_))
        have ntr : t ≠ r := ne_of_none hi hr
        have hlen2 : (planned (fives xs)).length ≤ 2000 * 100 := by
          have := (fold_fit (es := fives xs) (fives xs) 0 MPlan.fresh fresh_fit (evok_of he h3)).st
          rw [Nat.zero_add] at this
          have : 2000 * (fives xs).length ≤ 2000 * 100 := by omega
          unfold planned
          omega
        refine val_var rfl _ ⟨r, t, _, _, rfl, rfl, upd_same, by rw [upd_ne ntr]; exact hi, ?_, fun u hu => ?_⟩
        · rw [List.length_map]
          exact Nat.le_trans (show 1 + _ ≤ 1000000 by omega) (by decide)
        · refine (k1.same s2) _ u ((s3.trans (same_new hr)).trans (same_new hu)) (s3.free ((same_new hr).free hu)) ?_
          unfold Ints
          rw [upd_same]
          rfl
end
end Tz
namespace Tz
open PySem PySem.Spec PyProof.Rows L2
/-! ### the places -/
def wv : Option WL → V
  | none => .non
  | some L => .ref L.w
def oFp : Option WL → List Addr
  | none => []
  | some L => L.fp
def plFp (p : Addr) (Ls : List (Option WL)) : List Addr := p :: Ls.flatMap oFp
structure PlacesAt (c : CA) (H : Hp) (p : Addr) (Ls : List (Option WL)) (st : MState) : Prop where
  lst : H p = some (.lst (Ls.map wv))
  len : Ls.length = 4
  slen : st.length = 4
  at_ : ∀ (i : Nat) (L : WL), Ls[i]? = some (some L) → ∃ m, st[i]? = some (some m) ∧ WorldAt c H L m
  no : ∀ (i : Nat), Ls[i]? = some none → st[i]? = some none
  dis : ∀ (i j : Nat) (L L' : WL), i ≠ j → Ls[i]? = some (some L) → Ls[j]? = some (some L') → ∀ b ∈ L.fp, b ∉ L'.fp
  out : ∀ (i : Nat) (L : WL), Ls[i]? = some (some L) → p ∉ L.fp
theorem plFp_mem (b p : Addr) (Ls : List (Option WL)) : b ∈ plFp p Ls ↔ b = p ∨ ∃ (i : Nat) (L : WL), Ls[i]? = some (some L) ∧ b ∈ L.fp := by
  unfold plFp
  rw [List.mem_cons, List.mem_flatMap]
  constructor
  · rintro (h | ⟨o, ho, hb⟩)
    · exact .inl h
    · cases o with
      | none => cases hb
      | some L =>
        obtain ⟨i, hi⟩ := List.mem_iff_getElem?.mp ho
        exact .inr ⟨i, L, hi, hb⟩
  · rintro (h | ⟨i, L, hi, hb⟩)
    · exact .inl h
    · exact .inr ⟨some L, List.mem_of_getElem? hi, hb⟩
section
variable {c : CA} {H H1 : Hp} {p : Addr} {Ls : List (Option WL)} {st : MState}
theorem PlacesAt.live (h : PlacesAt c H p Ls st) : ∀ b ∈ plFp p Ls, ∃ o, H b = some o := by
  intro b hb
  rcases (plFp_mem b p Ls).mp hb with rfl | ⟨i, L, hi, hb⟩
  · exact ⟨_, h.lst⟩
  · obtain ⟨m, _, A⟩ := h.at_ i L hi
    exact A.live b hb
theorem PlacesAt.same (h : PlacesAt c H p Ls st) (s : Same H H1) : PlacesAt c H1 p Ls st :=
  ⟨s _ _ h.lst, h.len, h.slen, fun i L hi => by
    obtain ⟨m, hm, A⟩ := h.at_ i L hi
    exact ⟨m, hm, A.same s⟩, h.no, h.dis, h.out⟩
/-- a change elsewhere -/
theorem PlacesAt.mv {S S' : List Addr} (h : PlacesAt c H p Ls st) (a : Mv S H S' H1) (hn : ∀ b ∈ plFp p Ls, b ∉ S) : PlacesAt c H1 p Ls st :=
  ⟨a.get h.lst (hn p ((plFp_mem _ _ _).mpr (.inl rfl))), h.len, h.slen, fun i L hi => by
    obtain ⟨m, hm, A⟩ := h.at_ i L hi
    exact ⟨m, hm, A.mv a fun b hb => hn b ((plFp_mem _ _ _).mpr (.inr ⟨i, L, hi, hb⟩))⟩, h.no, h.dis, h.out⟩
/-- one of the worlds has changed -/
theorem PlacesAt.upd {i : Nat} {L L' : WL} {m' : MWorld} (h : PlacesAt c H p Ls st) (hi : Ls[i]? = some (some L)) (A : WorldAt c H1 L' m') (hw : L'.w = L.w) (a : Mv L.fp H L'.fp H1) :
    PlacesAt c H1 p (Ls.set i (some L')) (st.set i (some m')) ∧ Mv (plFp p Ls) H (plFp p (Ls.set i (some L'))) H1 := by
  have hil : i < Ls.length := (List.getElem?_eq_some_iff.mp hi).1
  have hp := h.out i L hi
  have off : ∀ (j : Nat) (L2 : WL), j ≠ i → Ls[j]? = some (some L2) → ∀ b ∈ L2.fp, b ∉ L'.fp := fun j L2 hj h2 b hb q => by
    obtain ⟨m2, _, A2⟩ := h.at_ j L2 h2
    obtain ⟨o, e⟩ := A2.live b hb
    exact a.live e (h.dis j i L2 L hj h2 hi b hb) q
  have pn : p ∉ L'.fp := a.live h.lst hp
  have emap : (Ls.set i (some L')).map wv = Ls.map wv := by
    rw [List.map_set]
    refine List.ext_getElem? fun k => ?_
    rw [List.getElem?_set]
    by_cases hk : i = k
    · subst hk
      rw [if_pos rfl, List.length_map, if_pos hil, List.getElem?_map, hi]
      show some (V.ref L'.w) = some (V.ref L.w)
      rw [hw]
    · rw [if_neg hk]
  have gs : ∀ (k : Nat) (L2 : WL), (Ls.set i (some L'))[k]? = some (some L2) → (k = i ∧ L2 = L') ∨ (k ≠ i ∧ Ls[k]? = some (some L2)) := fun k L2 hk => by
    rw [List.getElem?_set] at hk
    by_cases e : i = k
    · subst e
      rw [if_pos rfl, if_pos hil] at hk
      exact .inl ⟨rfl, (Option.some.inj (Option.some.inj hk)).symm⟩
    · rw [if_neg e] at hk
      exact .inr ⟨fun z => e z.symm, hk⟩
  refine ⟨⟨?_, by rw [List.length_set]; exact h.len, by rw [List.length_set]; exact h.slen, fun k L2 hk => ?_, fun k hk => ?_, fun k j L2 L3 hkj hk hj => ?_, fun k L2 hk => ?_⟩, a.sub (fun b hb => (plFp_mem _ _ _).mpr (.inr ⟨i, L, hi, hb⟩)) fun b hb => ?_⟩
  · rw [emap]
    exact a.get h.lst hp
  · rcases gs k L2 hk with ⟨rfl, rfl⟩ | ⟨hne, hk'⟩
    · refine ⟨m', ?_, A⟩
      rw [List.getElem?_set, if_pos rfl, if_pos (by rw [h.slen, ← h.len]; exact hil)]
    · obtain ⟨m2, hm2, A2⟩ := h.at_ k L2 hk'
      refine ⟨m2, ?_, A2.mv a (h.dis k i L2 L hne hk' hi)⟩
      rw [List.getElem?_set, if_neg (Ne.symm hne)]
      exact hm2
  · rw [List.getElem?_set] at hk ⊢
    by_cases e : i = k
    · subst e
      rw [if_pos rfl, if_pos hil] at hk
      cases hk
    · rw [if_neg e] at hk ⊢
      exact h.no k hk
  · rcases gs k L2 hk with ⟨rfl, rfl⟩ | ⟨hne, hk'⟩
    · rcases gs j L3 hj with ⟨rfl, rfl⟩ | ⟨hne2, hj'⟩
      · exact absurd rfl hkj
      · exact fun b hb q => off j L3 hne2 hj' b q hb
    · rcases gs j L3 hj with ⟨rfl, rfl⟩ | ⟨hne2, hj'⟩
      · exact off k L2 hne hk'
      · exact h.dis k j L2 L3 hkj hk' hj'
  · rcases gs k L2 hk with ⟨rfl, rfl⟩ | ⟨hne, hk'⟩
    · exact pn
    · exact h.out k L2 hk'
  · rcases (plFp_mem _ _ _).mp hb with rfl | ⟨k, L2, hk, hb3⟩
    · exact .inr (.inl ((plFp_mem _ _ _).mpr (.inl rfl)))
    · rcases gs k L2 hk with ⟨rfl, rfl⟩ | ⟨hne, hk'⟩
      · exact .inl hb3
      · exact .inr (.inl ((plFp_mem _ _ _).mpr (.inr ⟨k, L2, hk', hb3⟩)))
/-- a new world is put at a place -/
theorem PlacesAt.put {i : Nat} {L' : WL} {m' : MWorld} (h : PlacesAt c H p Ls st) (hi : i < 4) (A : WorldAt c H1 L' m') (hf : ∀ b ∈ L'.fp, H b = none) (s : Same H H1) :
    PlacesAt c (L2.upd H1 p (.lst ((Ls.map wv).set i (.ref L'.w)))) p (Ls.set i (some L')) (st.set i (some m')) ∧ Mv (plFp p Ls) H (plFp p (Ls.set i (some L'))) (L2.upd H1 p (.lst ((Ls.map wv).set i (.ref L'.w)))) := by
  have hil : i < Ls.length := by rw [h.len]; exact hi
  have hp1 := s _ _ h.lst
  have e : Mv [p] H1 [p] (L2.upd H1 p (.lst ((Ls.map wv).set i (.ref L'.w)))) := .updL (by simp) hp1
  have fr : ∀ b o, H b = some o → b ∉ L'.fp := fun b o hb q => by
    rw [hf b q] at hb
    cases hb
  have gs : ∀ (k : Nat) (L2 : WL), (Ls.set i (some L'))[k]? = some (some L2) → (k = i ∧ L2 = L') ∨ (k ≠ i ∧ Ls[k]? = some (some L2)) := fun k L2 hk => by
    rw [List.getElem?_set] at hk
    by_cases e : i = k
    · subst e
      rw [if_pos rfl, if_pos hil] at hk
      exact .inl ⟨rfl, (Option.some.inj (Option.some.inj hk)).symm⟩
    · rw [if_neg e] at hk
      exact .inr ⟨fun z => e z.symm, hk⟩
  have pn : p ∉ L'.fp := fr p _ h.lst
  have off : ∀ (j : Nat) (L2 : WL), Ls[j]? = some (some L2) → ∀ b ∈ L2.fp, b ∉ L'.fp := fun j L2 h2 b hb => by
    obtain ⟨m2, _, A2⟩ := h.at_ j L2 h2
    obtain ⟨o, e⟩ := A2.live b hb
    exact fr b o e
  have m1 : Mv (plFp p Ls) H (plFp p (Ls.set i (some L'))) H1 := (Mv.refl (plFp p Ls) H).grow s fun b hb => by
    rcases (plFp_mem _ _ _).mp hb with rfl | ⟨k, L2, hk, hb3⟩
    · exact .inl ((plFp_mem _ _ _).mpr (.inl rfl))
    · rcases gs k L2 hk with ⟨rfl, rfl⟩ | ⟨hne, hk'⟩
      · exact .inr (hf b hb3)
      · exact .inl ((plFp_mem _ _ _).mpr (.inr ⟨k, L2, hk', hb3⟩))
  refine ⟨⟨?_, by rw [List.length_set]; exact h.len, by rw [List.length_set]; exact h.slen, fun k L2 hk => ?_, fun k hk => ?_, fun k j L2 L3 hkj hk hj => ?_, fun k L2 hk => ?_⟩, m1.trans (.in1 ((plFp_mem _ _ _).mpr (.inl rfl)) e)⟩
  · rw [upd_same, List.map_set]
    rfl
  · rcases gs k L2 hk with ⟨rfl, rfl⟩ | ⟨hne, hk'⟩
    · refine ⟨m', ?_, A.mv e fun b hb => ?_⟩
      · rw [List.getElem?_set, if_pos rfl, if_pos (by rw [h.slen]; exact hi)]
      · simp only [List.mem_cons, List.not_mem_nil, or_false]
        intro z
        exact pn (z ▸ hb)
    · obtain ⟨m2, hm2, A2⟩ := h.at_ k L2 hk'
      refine ⟨m2, ?_, (A2.same s).mv e fun b hb => ?_⟩
      · rw [List.getElem?_set, if_neg (Ne.symm hne)]
        exact hm2
      · simp only [List.mem_cons, List.not_mem_nil, or_false]
        intro z
        exact h.out k L2 hk' (z ▸ hb)
  · rw [List.getElem?_set] at hk ⊢
    by_cases e : i = k
    · subst e
      rw [if_pos rfl, if_pos hil] at hk
      cases hk
    · rw [if_neg e] at hk ⊢
      exact h.no k hk
  · rcases gs k L2 hk with ⟨rfl, rfl⟩ | ⟨hne, hk'⟩
    · rcases gs j L3 hj with ⟨rfl, rfl⟩ | ⟨hne2, hj'⟩
      · exact absurd rfl hkj
      · exact fun b hb q => off j L3 hj' b q hb
    · rcases gs j L3 hj with ⟨rfl, rfl⟩ | ⟨hne2, hj'⟩
      · exact off k L2 hk'
      · exact h.dis k j L2 L3 hkj hk' hj'
  · rcases gs k L2 hk with ⟨rfl, rfl⟩ | ⟨hne, hk'⟩
    · exact pn
    · exact h.out k L2 hk'
end
end Tz
namespace Tz
open PySem PySem.Spec PyProof.Rows L2
def PChg (c : CA) (H : Hp) (p : Addr) (Ls : List (Option WL)) (r : MState × List Int) (Q : VK) : Prop := ∀ H' Ls' q, PlacesAt c H' p Ls' r.1 → Mv (plFp p Ls) H (plFp p Ls') H' → H q = none → Ints H' q r.2 → Q (.ref q) H'
def StOk (N : Nat) (st : MState) : Prop := ∀ (i : Nat) (m : MWorld), st[i]? = some (some m) → Good N m ∧ Kinds m ∧ m.parties.length ≤ 1000
def sp_is_place (K : PySem.W.Frag) (c : CA) : Sp := fun vs H Q _ => ∃ n : Int, vs = [.int n] ∧ Q (.bl (isPlace n)) H
def sp_is_second_out (K : PySem.W.Frag) (c : CA) : Sp := fun vs H Q _ => ∃ op a : Int, vs = [.int op, .int a] ∧ Q (.bl (isSecondOut op a)) H
def sp_has_row (K : PySem.W.Frag) (c : CA) : Sp := fun vs H Q _ => ∃ op : Int, vs = [.int op] ∧ ∀ H', Same H H' → Q (.bl (decide (op ∈ ([13, 23, 24] : List Int)))) H'
def sp_open_world (K : PySem.W.Frag) (c : CA) : Sp := fun vs H Q _ => ∃ (p : Addr) (Ls : List (Option WL)) (st : MState) (at' rv many : Int), vs = [.ref p, .int at', .int rv, .int many] ∧ PlacesAt c H p Ls st ∧ PChg c H p Ls (openWorld st at' rv many) Q
def sp_copy_world (K : PySem.W.Frag) (c : CA) : Sp := fun vs H Q _ => ∃ (p : Addr) (Ls : List (Option WL)) (st : MState) (s t : Int) (N : Nat), vs = [.ref p, .int s, .int t] ∧ PlacesAt c H p Ls st ∧ StOk N st ∧ PChg c H p Ls (copyWorld st s t) Q
def sp_rows_of (K : PySem.W.Frag) (c : CA) : Sp := fun vs H Q _ => ∃ (L : WL) (m : MWorld) (op : Int), vs = [.ref L.w, .int op] ∧ WorldAt c H L m ∧ m.trace.length < 500000 ∧ ∀ H' r, Same H H' → RowsAt H' r (m.rowsOf op) → Q (.ref r) H'
def sp_look (K : PySem.W.Frag) (c : CA) : Sp := fun vs H Q _ => ∃ (L : WL) (m : MWorld) (op a : Int), vs = [.ref L.w, .int op, .int a] ∧ WorldAt c H L m ∧ Fit m ∧ Kinds m ∧ 0 ≤ a ∧ a < 2 ^ 61 ∧ NewI H (m.look op a) Q
def sp_in_world (K : PySem.W.Frag) (c : CA) : Sp := fun vs H Q _ => ∃ (p : Addr) (Ls : List (Option WL)) (st : MState) (op at' a : Int) (r : Addr) (row : List Int) (N : Nat), vs = [.ref p, .int op, .int at', .int a, .ref r] ∧ PlacesAt c H p Ls st ∧ H r = some (.lst (row.map V.int)) ∧ r ∉ plFp p Ls ∧
  row.length < 50000 ∧ (∀ x ∈ row, x < 2 ^ 61) ∧ a < 2 ^ 61 ∧ StOk N st ∧ N + 5 * row.length < 400000 ∧ PChg c H p Ls (inWorld st op at' a row) Q
def sp_answer_of (K : PySem.W.Frag) (c : CA) : Sp := fun vs H Q _ => ∃ (p : Addr) (Ls : List (Option WL)) (st : MState) (op : Int) (l : Addr) (ns : List Int) (r : Addr) (row : List Int) (N : Nat), vs = [.ref p, .int op, .ref l, .ref r] ∧ PlacesAt c H p Ls st ∧
  H l = some (.lst (ns.map V.int)) ∧ (op = 0 → 3 ≤ ns.length) ∧ (op = 1 → 2 ≤ ns.length) ∧ (op ≠ 23 → op ≠ 24 → 1 ≤ ns.length) ∧ (∀ x ∈ ns, x < 2 ^ 61) ∧ H r = some (.lst (row.map V.int)) ∧ r ∉ plFp p Ls ∧
  row.length < 50000 ∧ (∀ x ∈ row, x < 2 ^ 61) ∧ StOk N st ∧ N + 5 * row.length < 400000 ∧ MemOk ∧ PChg c H p Ls (answerOf st op ns row) Q
theorem PChg.stay {c : CA} {H H1 : Hp} {p : Addr} {Ls : List (Option WL)} {st : MState} {z : List Int} {Q : VK} (h : PChg c H p Ls (st, z) Q) (A : PlacesAt c H p Ls st) (s : Same H H1) {r : Addr} (hr : H1 r = none) : Q (.ref r) (upd H1 r (.lst (z.map V.int))) :=
  h _ Ls r ((A.same s).same (same_new hr)) ((Mv.of_same s).trans (.side hr)) (s.free hr) upd_same
theorem PChg.newI {c : CA} {H : Hp} {p : Addr} {Ls : List (Option WL)} {st : MState} {z : List Int} {Q : VK} (h : PChg c H p Ls (st, z) Q) (A : PlacesAt c H p Ls st) : NewI H z Q := fun H' q s hq hi => h H' Ls q (A.same s) (.of_same s) hq hi
section
variable {P : Program} {w : World} {K : PySem.W.Frag} {mg : Str → Option Value} {base : Heap} {c : CA}
variable {σ : L2.St} {H : Hp} {L : WL} {m : MWorld} {p : Addr} {Ls : List (Option WL)} {st : MState} {ta tb : TE} {E : XK} {tt : TA}
theorem x_cons {Q : List V → Hp → Prop} (h : ta σ H fun x H1 => tt σ H1 fun xs H2 => Q (x :: xs) H2) : tCons ta tt σ H Q := h
theorem ixN_of {i : Int} {n : Nat} (h : i = ((i.toNat : Nat) : Int)) (h4 : i.toNat < n) : ixN n i = some i.toNat := by
  have e := Evl.ixN_nat h4
  rw [← h] at e
  exact e
theorem place_at (A : PlacesAt c H p Ls st) {i : Int} (hi : isPlace i = true) : ∃ o, Ls[i.toNat]? = some o ∧ (Ls.map wv)[i.toNat]? = some (wv o) ∧ i = ((i.toNat : Nat) : Int) ∧ i.toNat < 4 := by
  unfold isPlace at hi
  rw [Bool.and_eq_true, decide_eq_true_eq, decide_eq_true_eq] at hi
  have h4 : i.toNat < Ls.length := by rw [A.len]; omega
  refine ⟨Ls[i.toNat], List.getElem?_eq_getElem h4, ?_, by omega, by omega⟩
  rw [List.getElem?_map, List.getElem?_eq_getElem h4] <;> rfl
theorem v_place (ha : Val ta σ H (.ref p)) {i : Int} (hb : Val tb σ H (.int i)) (A : PlacesAt c H p Ls st) (hi : isPlace i = true) {o : Option WL} (ho : Ls[i.toNat]? = some o) : Val (tOp (rIxL K) ta tb) σ H (wv o) := by
  obtain ⟨o', h1, h2, h3, h4⟩ := place_at A hi
  rw [ho] at h1
  cases h1
  exact v_ixL ha hb (SqL.of A.lst) (get_atI h3 h2)
theorem stAt_no (A : PlacesAt c H p Ls st) {i : Int} (ho : Ls[i.toNat]? = some none) : stAt st i = none := by
  unfold stAt
  rw [A.no _ ho]
  rfl
theorem stAt_some (A : PlacesAt c H p Ls st) {i : Int} {L : WL} (ho : Ls[i.toNat]? = some (some L)) : ∃ m, stAt st i = some m ∧ st[i.toNat]? = some (some m) ∧ WorldAt c H L m := by
  obtain ⟨m, h1, h2⟩ := A.at_ _ L ho
  refine ⟨m, ?_, h1, h2⟩
  unfold stAt
  rw [h1]
  rfl
/-- whether a place is empty -/
theorem a_isN {o : Option WL} (h : Val ta σ H (wv o)) : Ans (tTest (tOp rIsN ta (tC .non))) σ H o.isNone := ans_isN h (by cases o <;> rfl)
theorem ok_is_place {f : Addr} {fd : FuncData} (F : Fun K "is_place" "is_place" s_is_place f fd) (T : Txt K mg c) : FnOk P w K mg base CX0 1 f fd ["number"] (sp_is_place K c) := by
  refine F.ok sc_is_place (fun vs H Q E h => ?_) (fun cdv A outer s H vs Q E hr h => ?_)
  · obtain ⟨n, rfl, k⟩ := h
    rfl
  obtain ⟨n, rfl, k⟩ := h
  refine ⟨_, (pss_one (ps_ret (pe_chain op_le op_lt pe_int (pv 0) (pe_gc T.g_PLACES)))), ?_⟩
  exact st_ret (v_chain (p := decide (0 ≤ n)) (q := decide (n < 4)) val_c (val_var rfl) (fun _ => val_c) (fun _ q => r_le q) (fun _ _ q => r_lt q)) k
theorem ok_is_second_out {f : Addr} {fd : FuncData} (F : Fun K "is_second_out" "is_second_out" s_is_second_out f fd) (T : Txt K mg c) : FnOk P w K mg base CX0 1 f fd ["op", "second"] (sp_is_second_out K c) := by
  refine F.ok sc_is_second_out (fun vs H Q E h => ?_) (fun cdv A outer s H vs Q E hr h => ?_)
  · obtain ⟨op, a, rfl, k⟩ := h
    rfl
  obtain ⟨op, a, rfl, k⟩ := h
  refine ⟨_, (pss_one (ps_ret (pe_or (pe_cmpR op_lt (pv 1) pe_int (nomark _)) (pe_one (pe_and (pe_cmpR op_eq (pv 0) (pe_gc T.g_CALM_worlds) (nomark _)) (pe_one (pe_cmpR op_gt (pv 1) (pe_gc T.g_MOST_ROUNDS_worlds) (nomark _)))))))), ?_⟩
  exact st_ret (v_orV (p := decide (a < 0)) (q := decide (op = 12) && decide (20 < a)) (v_lt (val_var rfl) val_c) fun _ => v_andV (v_eq (val_var rfl) val_c) fun _ => v_gt (val_var rfl) val_c) k
theorem ok_has_row {f : Addr} {fd : FuncData} (F : Fun K "has_row" "has_row" s_has_row f fd) (T : Txt K mg c) : FnOk P w K mg base CX0 1 f fd ["op"] (sp_has_row K c) := by
  refine F.ok sc_has_row (fun vs H Q E h => ?_) (fun cdv A outer s H vs Q E hr h => ?_)
  · obtain ⟨op, rfl, k⟩ := h
    rfl
  obtain ⟨op, rfl, k⟩ := h
  refine ⟨_, (pss_one (ps_ret (pe_cmpR op_in_seq (pv 0) (pe_tup (pa_cons (pe_gc T.g_RUN_STEPS) (pa_cons (pe_gc T.g_JUDGE) (pa_cons (pe_gc T.g_SCHEDULE) pa_nil)))) (by rfl)))), ?_⟩
  exact x_ret (x_inT (l := [13, 23, 24]) (val_var rfl) (av_cons val_c (av_cons val_c (av_cons val_c av_nil))) k)
theorem v_isPlace {i : Int} (h : Val ta σ H (.int i)) : Val (tCall (sp_is_place K c) [] E (tCons ta tNil)) σ H (.bl (isPlace i)) := v_call (av_cons h av_nil) fun Q q => ⟨i, rfl, q⟩
theorem ok_open_world {f : Addr} {fd : FuncData} (F : Fun K "open_world" "open_world" s_open_world f fd) (T : Txt K mg c) (D_World_init : MakeOk P w K mg base "World" c.wd 5 ["self", "reserve", "many"] (sp_World_init K c)) (D_is_place : DefOk P w K mg base "is_place" 1 ["number"] (sp_is_place K c)) : FnOk P w K mg base CX0 7 f fd ["places", "at", "reserve", "many"] (sp_open_world K c) := by
  refine F.ok sc_open_world (fun vs H Q E h => ?_) (fun cdv A outer s H vs Q E hr h => ?_)
  · obtain ⟨p, Ls, st, at', rv, many, rfl, A, k⟩ := h
    rfl
  obtain ⟨p, Ls, st, at', rv, many, rfl, A, k⟩ := h
  refine ⟨_, (pss_cons (ps_if (PW.pt (pw_or (pt_not (pt_val (pe_callD D_is_place (hr.mono (by decide)) (pa_cons (pv 1) pa_nil)))) (pw_or (pt_cmpR op_lt (pv 2) pe_int (nomark _)) (pw_or1 (pt_cmpR op_gt (pv 2) (pe_gc T.g_MOST_RESERVE) (nomark _)))))) (pss_one (ps_ret (pe_lst (pa_cons (pe_un un_neg pe_int) pa_nil)))) pss_nil)
      (pss_cons (ps_if (PW.pt (pw_or (pt_cmpR op_lt (pv 3) pe_int (nomark _)) (pw_or1 (pt_cmpR op_gt (pv 3) (pe_gc T.g_MOST_CLIENTS_worlds) (nomark _))))) (pss_one (ps_ret (pe_lst (pa_cons (pe_un un_neg pe_int) pa_nil)))) pss_nil)
      (pss_cons (ps_asg (pe_makeD D_World_init (hr.mono (by decide)) (pa_cons (pv 2) (pa_cons (pv 3) pa_nil))) (pg_sub (pv 0) (pv 1) set_list))
      (pss_one (ps_ret (pe_lst (pa_cons pe_int pa_nil))))))), ?_⟩
  refine q_ifn (b := !isPlace at' || (decide (rv < 1) || decide (20 < rv))) (a_or (a_not (a_B (v_isPlace (val_var rfl)))) fun _ => a_or (a_val (v_lt (val_var rfl) val_c)) fun _ => a_val (v_gt (val_var rfl) val_c)) (fun h => ?_) (fun h => ?_)
  · have e : isPlace at' = false ∨ rv < 1 ∨ 20 < rv := by simpa using h
    rw [show openWorld st at' rv many = (st, [-1]) from if_pos e] at k
    exact s_retL (av_cons (v_neg val_c) av_nil) fun r hr => k.stay A (Same.refl H) hr
  · have e : ¬ (isPlace at' = false ∨ rv < 1 ∨ 20 < rv) := by
      intro q
      have : (!isPlace at' || (decide (rv < 1) || decide (20 < rv))) = true := by simpa using q
      rw [this] at h
      cases h
    refine q_ifn (a_or (a_val (v_lt (val_var rfl) val_c)) fun _ => a_val (v_gt (val_var rfl) val_c)) (fun h2 => ?_) (fun h2 => ?_)
    · have e2 : many < 1 ∨ 8 < many := by simpa using h2
      rw [show openWorld st at' rv many = (st, [-1]) from (if_neg e).trans (if_pos e2)] at k
      exact s_retL (av_cons (v_neg val_c) av_nil) fun r hr => k.stay A (Same.refl H) hr
    · have e2 : ¬ (many < 1 ∨ 8 < many) := by
        intro q
        have : (decide (many < 1) || decide (8 < many)) = true := by simpa using q
        rw [this] at h2
        cases h2
      rw [show openWorld st at' rv many = (st.set at'.toNat (some (.fresh rv many)), [0]) from (if_neg e).trans (if_neg e2)] at k
      have hi : isPlace at' = true := by
        cases q : isPlace at' with
        | true => rfl
        | false => exact absurd (.inl q) e
      refine q_xasg (x_make (av_cons (val_var rfl) (av_cons (val_var rfl) av_nil)) fun x dx hx hdx hne s1 => ?_)
      refine ⟨x, dx, rv, many, rfl, upd_same, by omega, by omega, fun H2 L AW hLw mv => ⟨rfl, ?_⟩⟩
      have s2 : Same H H2 := fun b o hb => mv.keep b o (s1 b o hb) (.inl fun q => by
        rw [List.mem_singleton] at q
        rw [q, hx] at hb
        cases hb)
      have hf : ∀ b ∈ L.fp, H b = none := fun b hb => by
        rcases mv.new b hb with q | q
        · rw [List.mem_singleton] at q
          rw [q]
          exact hx
        · exact s1.free q
      obtain ⟨o, h1, h3, h4, h5⟩ := place_at A hi
      obtain ⟨A3, m3⟩ := A.put (i := at'.toNat) h5 AW hf s2
      rw [hLw] at A3 m3
      refine ⟨_, rfl, _, rfl, p, _, at', at'.toNat, rfl, rfl, s2 _ _ A.lst, ?_, ?_⟩
      · rw [List.length_map, A.len]
        exact ixN_of h4 h5
      · exact s_retL (av_cons val_c av_nil) fun r hr => k _ _ r (A3.same (same_new hr)) (m3.aside hr) (m3.back hr) upd_same
theorem ok_copy_world {f : Addr} {fd : FuncData} (F : Fun K "copy_world" "copy_world" s_copy_world f fd) (T : Txt K mg c) (D_World_twin : MethOk P w K mg base c.wd "twin" 7 ["self"] (sp_World_twin K c)) (D_is_place : DefOk P w K mg base "is_place" 1 ["number"] (sp_is_place K c)) : FnOk P w K mg base CX0 8 f fd ["places", "source", "target"] (sp_copy_world K c) := by
  refine F.ok sc_copy_world (fun vs H Q E h => ?_) (fun cdv A outer s H vs Q E hr h => ?_)
  · obtain ⟨p, Ls, st, s1, t1, N, rfl, A, hok, k⟩ := h
    rfl
  obtain ⟨p, Ls, st, s1, t1, N, rfl, A, hok, k⟩ := h
  refine ⟨_, (pss_cons (ps_if (PW.pt (pw_or (pt_not (pt_val (pe_callD D_is_place (hr.mono (by decide)) (pa_cons (pv 1) pa_nil)))) (pw_or1 (pt_not (pt_val (pe_callD D_is_place (hr.mono (by decide)) (pa_cons (pv 2) pa_nil))))))) (pss_one (ps_ret (pe_lst (pa_cons (pe_un un_neg pe_int) pa_nil)))) pss_nil)
      (pss_cons (ps_if (pt_cmpR op_isN (pe_ix ix_list (pv 0) (pv 1) (fun _ _ => rfl)) pe_non (nomark _)) (pss_one (ps_ret (pe_lst (pa_cons (pe_un un_neg pe_int) pa_nil)))) pss_nil)
      (pss_cons (ps_asg (pe_methD0 (pe_ix ix_list (pv 0) (pv 1) (fun _ _ => rfl)) T.c_wd D_World_twin (hr.mono (by decide))) (pg_sub (pv 0) (pv 2) set_list))
      (pss_one (ps_ret (pe_lst (pa_cons pe_int pa_nil))))))), ?_⟩
  refine q_ifn (b := !isPlace s1 || !isPlace t1) (a_or (a_not (a_B (v_isPlace (val_var rfl)))) fun _ => a_not (a_B (v_isPlace (val_var rfl)))) (fun h => ?_) (fun h => ?_)
  · have e : isPlace s1 = false ∨ isPlace t1 = false := by simpa using h
    rw [show copyWorld st s1 t1 = (st, [-1]) from if_pos e] at k
    exact s_retL (av_cons (v_neg val_c) av_nil) fun r hr => k.stay A (Same.refl H) hr
  · have e : ¬ (isPlace s1 = false ∨ isPlace t1 = false) := by
      intro q
      have : (!isPlace s1 || !isPlace t1) = true := by simpa using q
      rw [this] at h
      cases h
    have h1 : isPlace s1 = true := by
      cases q : isPlace s1 with
      | true => rfl
      | false => exact absurd (.inl q) e
    have h2 : isPlace t1 = true := by
      cases q : isPlace t1 with
      | true => rfl
      | false => exact absurd (.inr q) e
    have ek : copyWorld st s1 t1 = match stAt st s1 with
      | none => (st, [-2])
      | some w => (st.set t1.toNat (some w), [0]) := if_neg e
    rw [ek] at k
    obtain ⟨o, ho, _, _, _⟩ := place_at A h1
    refine q_ifn (a_isN (v_place (val_var rfl) (val_var rfl) A h1 ho)) (fun h3 => ?_) (fun h3 => ?_)
    · cases o with
      | some L => cases h3
      | none =>
        rw [stAt_no A ho] at k
        exact s_retL (av_cons (v_neg val_c) av_nil) fun r hr => k.stay A (Same.refl H) hr
    · cases o with
      | none => cases h3
      | some L =>
        obtain ⟨m, hs, hm, AW⟩ := stAt_some A ho
        rw [hs] at k
        obtain ⟨o2, ho2, _, h4, h5⟩ := place_at A h2
        refine q_xasg ?_
        obtain ⟨dx, hob⟩ := AW.ob
        refine x_meth0 (v_place (val_var rfl) (val_var rfl) A h1 ho) hob m_wd_twin ⟨L, m, rfl, AW, (hok _ _ hm).2.2, fun H2 L' AW2 hf s2 => ?_⟩
        obtain ⟨A3, m3⟩ := A.put (i := t1.toNat) h5 AW2 hf s2
        refine ⟨_, rfl, _, rfl, p, _, t1, t1.toNat, rfl, rfl, s2 _ _ A.lst, ?_, ?_⟩
        · rw [List.length_map, A.len]
          exact ixN_of h4 h5
        · exact s_retL (av_cons val_c av_nil) fun r hr => k _ _ r (A3.same (same_new hr)) (m3.aside hr) (m3.back hr) upd_same
theorem ok_rows_of {f : Addr} {fd : FuncData} (F : Fun K "rows_of" "rows_of" s_rows_of f fd) (T : Txt K mg c) (D_order : DefOk P w K mg base "order" 1 ["world"] (sp_order K c)) (D_history : DefOk P w K mg base "history" 1 ["world"] (sp_history K c)) : FnOk P w K mg base CX0 2 f fd ["world", "op"] (sp_rows_of K c) := by
  refine F.ok sc_rows_of (fun vs H Q E h => ?_) (fun cdv A outer s H vs Q E hr h => ?_)
  · obtain ⟨L, m, op, rfl, A, ht, k⟩ := h
    rfl
  obtain ⟨L, m, op, rfl, A, ht, k⟩ := h
  refine ⟨_, (pss_cons (ps_if (pt_cmpR op_eq (pv 1) (pe_gc T.g_GET_NETWORK) (nomark _)) (pss_one (ps_ret (pe_fld (pv 0) rfl))) pss_nil)
      (pss_cons (ps_if (pt_cmpR op_eq (pv 1) (pe_gc T.g_GET_OUTBOX) (nomark _)) (pss_one (ps_ret (pe_fld (pe_fld (pv 0) rfl) rfl))) pss_nil)
      (pss_cons (ps_if (pt_cmpR op_eq (pv 1) (pe_gc T.g_GET_TRACE) (nomark _)) (pss_one (ps_ret (pe_fld (pv 0) rfl))) pss_nil)
      (pss_cons (ps_if (pt_cmpR op_eq (pv 1) (pe_gc T.g_GET_HISTORY) (nomark _)) (pss_one (ps_ret (pe_callD D_history (hr.mono (by decide)) (pa_cons (pv 0) pa_nil)))) pss_nil)
      (pss_one (ps_ret (pe_callD D_order (hr.mono (by decide)) (pa_cons (pv 0) pa_nil)))))))), ?_⟩
  refine q_ifn (a_val (v_eq (val_var rfl) val_c)) (fun h => ?_) (fun h => ?_)
  · have e := of_decide_eq_true h
    rw [show m.rowsOf op = m.net.map M5.row from if_pos e] at k
    exact st_ret (v_wd_network T A (val_var rfl)) (k H _ (Same.refl H) A.net)
  · have e := of_decide_eq_false h
    refine q_ifn (a_val (v_eq (val_var rfl) val_c)) (fun h2 => ?_) (fun h2 => ?_)
    · have e2 := of_decide_eq_true h2
      rw [show m.rowsOf op = m.srv.outbox.map M5.row from (if_neg e).trans (if_pos e2)] at k
      exact st_ret (v_sv_outbox T A.sv (v_wd_service T A (val_var rfl))) (k H _ (Same.refl H) A.sv.out)
    · have e2 := of_decide_eq_false h2
      refine q_ifn (a_val (v_eq (val_var rfl) val_c)) (fun h3 => ?_) (fun h3 => ?_)
      · have e3 := of_decide_eq_true h3
        rw [show m.rowsOf op = m.trace.map M6.row from (if_neg e).trans ((if_neg e2).trans (if_pos e3))] at k
        exact st_ret (v_wd_trace T A (val_var rfl)) (k H _ (Same.refl H) A.tr)
      · have e3 := of_decide_eq_false h3
        refine q_ifn (a_val (v_eq (val_var rfl) val_c)) (fun h4 => ?_) (fun h4 => ?_)
        · have e4 := of_decide_eq_true h4
          rw [show m.rowsOf op = m.history.map M5.row from (if_neg e).trans ((if_neg e2).trans ((if_neg e3).trans (if_pos e4)))] at k
          exact x_ret (x_call (av_cons (val_var rfl) av_nil) ⟨L, m, rfl, A, ht, fun H1 r s _ R => k H1 r s R⟩)
        · have e4 := of_decide_eq_false h4
          rw [show m.rowsOf op = m.order.map M4.row from (if_neg e).trans ((if_neg e2).trans ((if_neg e3).trans (if_neg e4)))] at k
          exact x_ret (x_call (av_cons (val_var rfl) av_nil) ⟨L, m, rfl, A, ht, fun H1 r s _ R => k H1 r s R⟩)
theorem rowsOf_len {m : MWorld} (f : Fit m) (op : Int) : (m.rowsOf op).length < 1000000 ∧ ∀ r ∈ m.rowsOf op, r.length ≤ 6 := by
  have h1 := f.net
  have h2 := f.tr
  have h3 := f.out
  have l5 : ∀ l : List M5, ∀ r ∈ l.map M5.row, r.length ≤ 6 := fun l r hr => by
    obtain ⟨e, _, rfl⟩ := List.mem_map.mp hr
    show 5 ≤ 6
    decide
  have l6 : ∀ l : List M6, ∀ r ∈ l.map M6.row, r.length ≤ 6 := fun l r hr => by
    obtain ⟨e, _, rfl⟩ := List.mem_map.mp hr
    show 6 ≤ 6
    decide
  have l4 : ∀ l : List M4, ∀ r ∈ l.map M4.row, r.length ≤ 6 := fun l r hr => by
    obtain ⟨e, _, rfl⟩ := List.mem_map.mp hr
    show 4 ≤ 6
    decide
  unfold MWorld.rowsOf
  split
  · exact ⟨by rw [List.length_map]; omega, l5 _⟩
  · split
    · exact ⟨by rw [List.length_map]; omega, l5 _⟩
    · split
      · exact ⟨by rw [List.length_map]; omega, l6 _⟩
      · split
        · refine ⟨?_, l5 _⟩
          rw [List.length_map]
          have : m.history.length ≤ m.trace.length := List.length_filterMap_le _ _
          omega
        · refine ⟨?_, l4 _⟩
          rw [List.length_map]
          have : m.order.length ≤ m.trace.length := by
            unfold MWorld.order
            rw [List.length_mergeSort]
            exact List.length_filterMap_le _ _
          omega
theorem ok_look {f : Addr} {fd : FuncData} (F : Fun K "look" "look" s_look f fd) (T : Txt K mg c) (D_get_restart_values : DefOk P w K mg base "get_restart_values" 2 ["world"] (sp_get_restart_values K c)) (D_get_statistics : DefOk P w K mg base "get_statistics" 1 ["world"] (sp_get_statistics K c)) (D_page : DefOk P w K mg base "page" 1 ["rows", "first"] (sp_page K c)) (D_rows_of : DefOk P w K mg base "rows_of" 2 ["world", "op"] (sp_rows_of K c)) (D_get_client : DefOk P w K mg base "get_client" 2 ["world", "client"] (sp_get_client K c)) (D_get_service : DefOk P w K mg base "get_service" 2 ["world"] (sp_get_service K c)) : FnOk P w K mg base CX0 3 f fd ["world", "op", "second"] (sp_look K c) := by
  refine F.ok sc_look (fun vs H Q E h => ?_) (fun cdv A outer s H vs Q E hr h => ?_)
  · obtain ⟨L, m, op, a, rfl, A, hf, hk, ha, hb, k⟩ := h
    rfl
  obtain ⟨L, m, op, a, rfl, A, hf, hk, ha, hb, k⟩ := h
  refine ⟨_, (pss_cons (ps_if (pt_cmpR op_eq (pv 1) (pe_gc T.g_GET_SERVICE) (nomark _)) (pss_one (ps_ret (pe_callD D_get_service (hr.mono (by decide)) (pa_cons (pv 0) pa_nil)))) pss_nil)
      (pss_cons (ps_if (pt_cmpR op_eq (pv 1) (pe_gc T.g_GET_CLIENT) (nomark _)) (pss_one (ps_ret (pe_callD D_get_client (hr.mono (by decide)) (pa_cons (pv 0) (pa_cons (pv 2) pa_nil))))) pss_nil)
      (pss_cons (ps_if (pt_chain op_le op_le (pe_gc T.g_GET_NETWORK) (pv 1) (pe_gc T.g_GET_ORDER)) (pss_one (ps_ret (pe_callD D_page (hr.mono (by decide)) (pa_cons (pe_callD D_rows_of (hr.mono (by decide)) (pa_cons (pv 0) (pa_cons (pv 1) pa_nil))) (pa_cons (pv 2) pa_nil))))) pss_nil)
      (pss_cons (ps_if (pt_cmpR op_eq (pv 1) (pe_gc T.g_GET_STATISTICS) (nomark _)) (pss_one (ps_ret (pe_callD D_get_statistics (hr.mono (by decide)) (pa_cons (pv 0) pa_nil)))) pss_nil)
      (pss_one (ps_ret (pe_callD D_get_restart_values (hr.mono (by decide)) (pa_cons (pv 0) pa_nil)))))))), ?_⟩
  refine q_ifn (a_val (v_eq (val_var rfl) val_c)) (fun h => ?_) (fun h => ?_)
  · have e := of_decide_eq_true h
    rw [show m.look op a = m.serviceAns from if_pos e] at k
    exact x_ret (x_call (av_cons (val_var rfl) av_nil) ⟨L, m, rfl, A, k⟩)
  · have e := of_decide_eq_false h
    refine q_ifn (a_val (v_eq (val_var rfl) val_c)) (fun h2 => ?_) (fun h2 => ?_)
    · have e2 := of_decide_eq_true h2
      rw [show m.look op a = m.clientAns a from (if_neg e).trans (if_pos e2)] at k
      exact x_ret (x_call (av_cons (val_var rfl) (av_cons (val_var rfl) av_nil)) ⟨L, m, a, rfl, A, k⟩)
    · have e2 := of_decide_eq_false h2
      refine q_ifn (b := decide (16 ≤ op) && decide (op ≤ 20)) (a_val (v_chain val_c (val_var rfl) (fun _ => val_c) (fun _ q => r_le q) (fun _ _ q => r_le q))) (fun h3 => ?_) (fun h3 => ?_)
      · have e3 : 16 ≤ op ∧ op ≤ 20 := by simpa using h3
        rw [show m.look op a = page (m.rowsOf op) a from (if_neg e).trans ((if_neg e2).trans (if_pos e3))] at k
        obtain ⟨z1, z2⟩ := rowsOf_len hf op
        refine x_ret (x_callX (x_cons (x_call (av_cons (val_var rfl) (av_cons (val_var rfl) av_nil)) ⟨L, m, op, rfl, A, hf.tr, fun H1 r s R => ?_⟩)))
        exact x_cons1 (val_var rfl _ ⟨r, m.rowsOf op, a, rfl, R, z1, z2, ha, hb, k.same s⟩)
      · have e3 : ¬ (16 ≤ op ∧ op ≤ 20) := by simpa using h3
        refine q_ifn (a_val (v_eq (val_var rfl) val_c)) (fun h4 => ?_) (fun h4 => ?_)
        · have e4 := of_decide_eq_true h4
          rw [show m.look op a = m.statistics from (if_neg e).trans ((if_neg e2).trans ((if_neg e3).trans (if_pos e4)))] at k
          exact x_ret (x_call (av_cons (val_var rfl) av_nil) ⟨L, m, rfl, A, hk, k⟩)
        · have e4 := of_decide_eq_false h4
          rw [show m.look op a = m.restartValues from (if_neg e).trans ((if_neg e2).trans ((if_neg e3).trans (if_neg e4)))] at k
          exact x_ret (x_call (av_cons (val_var rfl) av_nil) ⟨L, m, rfl, A, hf.unf, k⟩)
theorem ok_in_world {f : Addr} {fd : FuncData} (F : Fun K "in_world" "in_world" s_in_world f fd) (T : Txt K mg c) (D_look : DefOk P w K mg base "look" 3 ["world", "op", "second"] (sp_look K c)) (D_run_steps : DefOk P w K mg base "run_steps" 9 ["world", "steps"] (sp_run_steps K c)) (D_change : DefOk P w K mg base "change" 8 ["world", "op", "second"] (sp_change K c)) (D_is_second_out : DefOk P w K mg base "is_second_out" 1 ["op", "second"] (sp_is_second_out K c)) (D_is_place : DefOk P w K mg base "is_place" 1 ["number"] (sp_is_place K c)) : FnOk P w K mg base CX0 10 f fd ["places", "op", "at", "second", "row"] (sp_in_world K c) := by
  refine F.ok sc_in_world (fun vs H Q E h => ?_) (fun cdv A outer s H vs Q E hr h => ?_)
  · obtain ⟨p, Ls, st, op, at', a, r, row, N, rfl, A, hr0, hrp, hlen, hx, hb, hok, hN, k⟩ := h
    rfl
  obtain ⟨p, Ls, st, op, at', a, r, row, N, rfl, A, hr0, hrp, hlen, hx, hb, hok, hN, k⟩ := h
  refine ⟨_, (pss_cons (ps_if (PW.pt (pw_or (pt_not (pt_val (pe_callD D_is_place (hr.mono (by decide)) (pa_cons (pv 2) pa_nil)))) (pw_or1 (pt_val (pe_callD D_is_second_out (hr.mono (by decide)) (pa_cons (pv 1) (pa_cons (pv 3) pa_nil))))))) (pss_one (ps_ret (pe_lst (pa_cons (pe_un un_neg pe_int) pa_nil)))) pss_nil)
      (pss_cons (ps_if (pt_cmpR op_isN (pe_ix ix_list (pv 0) (pv 2) (fun _ _ => rfl)) pe_non (nomark _)) (pss_one (ps_ret (pe_lst (pa_cons (pe_un un_neg pe_int) pa_nil)))) pss_nil)
      (pss_cons (ps_set (i := 5) sc_in_world.nd rfl (Or.inl rfl) (pe_ix ix_list (pv 0) (pv 2) (fun _ _ => rfl)))
      (pss_cons (ps_if (pt_cmpR op_lt (pv 1) (pe_gc T.g_RUN_STEPS) (nomark _)) (pss_one (ps_ret (pe_callD D_change (hr.mono (by decide)) (pa_cons (pv 5) (pa_cons (pv 1) (pa_cons (pv 3) pa_nil)))))) pss_nil)
      (pss_cons (ps_if (pt_cmpR op_eq (pv 1) (pe_gc T.g_RUN_STEPS) (nomark _)) (pss_one (ps_ret (pe_callD D_run_steps (hr.mono (by decide)) (pa_cons (pv 5) (pa_cons (pv 4) pa_nil))))) pss_nil)
      (pss_one (ps_ret (pe_callD D_look (hr.mono (by decide)) (pa_cons (pv 5) (pa_cons (pv 1) (pa_cons (pv 3) pa_nil))))))))))), ?_⟩
  refine q_ifn (b := !isPlace at' || isSecondOut op a) (a_or (a_not (a_B (v_isPlace (val_var rfl)))) fun _ => a_B (v_call (av_cons (val_var rfl) (av_cons (val_var rfl) av_nil)) fun Q q => ⟨op, a, rfl, q⟩)) (fun h => ?_) (fun h => ?_)
  · have e : isPlace at' = false ∨ isSecondOut op a = true := by simpa using h
    rw [show inWorld st op at' a row = (st, [-1]) from if_pos e] at k
    exact s_retL (av_cons (v_neg val_c) av_nil) fun r hr => k.stay A (Same.refl H) hr
  · have e : ¬ (isPlace at' = false ∨ isSecondOut op a = true) := by
      intro q
      have : (!isPlace at' || isSecondOut op a) = true := by simpa using q
      rw [this] at h
      cases h
    have h1 : isPlace at' = true := by
      cases q : isPlace at' with
      | true => rfl
      | false => exact absurd (.inl q) e
    have ha : 0 ≤ a := by
      by_cases q : a < 0
      · refine absurd (.inr ?_) e
        unfold isSecondOut
        rw [decide_eq_true q] <;> rfl
      · omega
    have ek : inWorld st op at' a row = match stAt st at' with
      | none => (st, [-2])
      | some w => if op < 13 then (st.set at'.toNat (some (w.change op a).1), (w.change op a).2)
        else if op = 13 then (st.set at'.toNat (some (w.runSteps row).1), (w.runSteps row).2)
        else (st, w.look op a) := if_neg e
    rw [ek] at k
    obtain ⟨o, ho, _, _, _⟩ := place_at A h1
    refine q_ifn (a_isN (v_place (val_var rfl) (val_var rfl) A h1 ho)) (fun h3 => ?_) (fun h3 => ?_)
    · cases o with
      | some L => cases h3
      | none =>
        rw [stAt_no A ho] at k
        exact s_retL (av_cons (v_neg val_c) av_nil) fun r hr => k.stay A (Same.refl H) hr
    · cases o with
      | none => cases h3
      | some L =>
        obtain ⟨m, hs, hm, AW⟩ := stAt_some A ho
        rw [hs] at k
        replace k : PChg c H p Ls (if op < 13 then (st.set at'.toNat (some (m.change op a).1), (m.change op a).2)
            else if op = 13 then (st.set at'.toNat (some (m.runSteps row).1), (m.runSteps row).2)
            else (st, m.look op a)) Q := k
        obtain ⟨hg, hkd, hpl⟩ := hok _ _ hm
        refine q_set (v_place (val_var rfl) (val_var rfl) A h1 ho) ?_
        have hrL : r ∉ L.fp := fun q => hrp ((plFp_mem _ _ _).mpr (.inr ⟨_, L, ho, q⟩))
        refine q_ifn (a_val (v_lt (val_var rfl) val_c)) (fun h4 => ?_) (fun h4 => ?_)
        · rw [show (if op < 13 then (st.set at'.toNat (some (m.change op a).1), (m.change op a).2)
            else if op = 13 then (st.set at'.toNat (some (m.runSteps row).1), (m.runSteps row).2)
            else (st, m.look op a)) = (st.set at'.toNat (some (m.change op a).1), (m.change op a).2) from if_pos (of_decide_eq_true h4)] at k
          refine x_ret (x_call (av_cons (val_var rfl) (av_cons (val_var rfl) (av_cons (val_var rfl) av_nil))) ⟨L, m, op, a, N, rfl, AW, hg, by omega, ha, by omega, fun H2 L2 q AW2 hw mv hq hi => ?_⟩)
          obtain ⟨A3, m3⟩ := A.upd ho AW2 hw mv
          exact k H2 _ q A3 m3 hq hi
        · have e4 := of_decide_eq_false h4
          refine q_ifn (a_val (v_eq (val_var rfl) val_c)) (fun h5 => ?_) (fun h5 => ?_)
          · rw [show (if op < 13 then (st.set at'.toNat (some (m.change op a).1), (m.change op a).2)
              else if op = 13 then (st.set at'.toNat (some (m.runSteps row).1), (m.runSteps row).2)
              else (st, m.look op a)) = (st.set at'.toNat (some (m.runSteps row).1), (m.runSteps row).2) from (if_neg e4).trans (if_pos (of_decide_eq_true h5))] at k
            refine x_ret (x_call (av_cons (val_var rfl) (av_cons (val_var rfl) av_nil)) ⟨L, m, r, row, N, rfl, AW, hr0, hrL, by omega, fun x hxm => by have := hx x hxm; omega, hg, hN, fun H2 L2 q AW2 hw mv hq hi => ?_⟩)
            obtain ⟨A3, m3⟩ := A.upd ho AW2 hw mv
            exact k H2 _ q A3 m3 hq hi
          · rw [show (if op < 13 then (st.set at'.toNat (some (m.change op a).1), (m.change op a).2)
              else if op = 13 then (st.set at'.toNat (some (m.runSteps row).1), (m.runSteps row).2)
              else (st, m.look op a)) = (st, m.look op a) from (if_neg e4).trans (if_neg (of_decide_eq_false h5))] at k
            exact x_ret (x_call (av_cons (val_var rfl) (av_cons (val_var rfl) (av_cons (val_var rfl) av_nil))) ⟨L, m, op, a, rfl, AW, hg.fit (by omega), hkd, ha, hb, k.newI A⟩)
theorem num_at {ns : List Int} {i : Nat} (h : i < ns.length) : ns[i]? = some ((ns[i]?).getD 0) := by
  rw [List.getElem?_eq_getElem h] <;> rfl
theorem v_num {l : Addr} {ns : List Int} {i : Nat} (ha : Val ta σ H (.ref l)) (hl : H l = some (.lst (ns.map V.int))) (h : i < ns.length) : Val (tOp (rIxL K) ta (tC (.int (i : Int)))) σ H (.int ((ns[i]?).getD 0)) := v_at ha val_c hl (num_at h)
theorem ok_answer_of {f : Addr} {fd : FuncData} (F : Fun K "answer_of" "answer_of" s_answer_of f fd) (T : Txt K mg c) (D_in_world : DefOk P w K mg base "in_world" 10 ["places", "op", "at", "second", "row"] (sp_in_world K c)) (D_schedule : DefOk P w K mg base "schedule" 6 ["numbers"] (sp_schedule K c)) (D_judge : DefOk P w K mg base "judge" 5 ["numbers"] (sp_judge K c)) (D_copy_world : DefOk P w K mg base "copy_world" 8 ["places", "source", "target"] (sp_copy_world K c)) (D_open_world : DefOk P w K mg base "open_world" 7 ["places", "at", "reserve", "many"] (sp_open_world K c)) : FnOk P w K mg base CX0 11 f fd ["places", "op", "numbers", "row"] (sp_answer_of K c) := by
  refine F.ok sc_answer_of (fun vs H Q E h => ?_) (fun cdv A outer s H vs Q E hr h => ?_)
  · obtain ⟨p, Ls, st, op, l, ns, r, row, N, rfl, A, hl, h0, h1, h2, hx, hr0, hrp, hlen, hxr, hok, hN, hmo, k⟩ := h
    rfl
  obtain ⟨p, Ls, st, op, l, ns, r, row, N, rfl, A, hl, h0, h1, h2, hx, hr0, hrp, hlen, hxr, hok, hN, hmo, k⟩ := h
  refine ⟨_, (pss_cons (ps_if (pt_cmpR op_eq (pv 1) (pe_gc T.g_OPEN_WORLD) (nomark _)) (pss_one (ps_ret (pe_callD D_open_world (hr.mono (by decide)) (pa_cons (pv 0) (pa_cons (pe_ix ix_list (pv 2) pe_int (fun _ _ => rfl)) (pa_cons (pe_ix ix_list (pv 2) pe_int (fun _ _ => rfl)) (pa_cons (pe_ix ix_list (pv 2) pe_int (fun _ _ => rfl)) pa_nil))))))) pss_nil)
      (pss_cons (ps_if (pt_cmpR op_eq (pv 1) (pe_gc T.g_COPY_WORLD) (nomark _)) (pss_one (ps_ret (pe_callD D_copy_world (hr.mono (by decide)) (pa_cons (pv 0) (pa_cons (pe_ix ix_list (pv 2) pe_int (fun _ _ => rfl)) (pa_cons (pe_ix ix_list (pv 2) pe_int (fun _ _ => rfl)) pa_nil)))))) pss_nil)
      (pss_cons (ps_if (pt_cmpR op_eq (pv 1) (pe_gc T.g_JUDGE) (nomark _)) (pss_one (ps_ret (pe_callD D_judge (hr.mono (by decide)) (pa_cons (pv 3) pa_nil)))) pss_nil)
      (pss_cons (ps_if (pt_cmpR op_eq (pv 1) (pe_gc T.g_SCHEDULE) (nomark _)) (pss_one (ps_ret (pe_callD D_schedule (hr.mono (by decide)) (pa_cons (pv 3) pa_nil)))) pss_nil)
      (pss_cons (ps_set (i := 4) sc_answer_of.nd rfl (Or.inl rfl) pe_int)
      (pss_cons (ps_if (pt_cmpR op_gt (pe_callB call_len_seq (by rfl) T.z_len PySem.boot_len (pa_cons (pv 2) pa_nil)) pe_int (nomark _)) (pss_one (ps_set (i := 4) sc_answer_of.nd rfl (Or.inl rfl) (pe_ix ix_list (pv 2) pe_int (fun _ _ => rfl)))) pss_nil)
      (pss_one (ps_ret (pe_callD D_in_world (hr.mono (by decide)) (pa_cons (pv 0) (pa_cons (pv 1) (pa_cons (pe_ix ix_list (pv 2) pe_int (fun _ _ => rfl)) (pa_cons (pv 4) (pa_cons (pv 3) pa_nil)))))))))))))), ?_⟩
  refine q_ifn (a_val (v_eq (val_var rfl) val_c)) (fun h => ?_) (fun h => ?_)
  · have e := of_decide_eq_true h
    have l3 := h0 e
    rw [show answerOf st op ns row = openWorld st ((ns[0]?).getD 0) ((ns[1]?).getD 0) ((ns[2]?).getD 0) from if_pos e] at k
    exact x_ret (x_call (av_cons (val_var rfl) (av_cons (v_num (i := 0) (val_var rfl) hl (by omega)) (av_cons (v_num (i := 1) (val_var rfl) hl (by omega)) (av_cons (v_num (i := 2) (val_var rfl) hl (by omega)) av_nil)))) ⟨p, Ls, st, _, _, _, rfl, A, k⟩)
  · have e := of_decide_eq_false h
    refine q_ifn (a_val (v_eq (val_var rfl) val_c)) (fun h3 => ?_) (fun h3 => ?_)
    · have e1 := of_decide_eq_true h3
      have l2 := h1 e1
      rw [show answerOf st op ns row = copyWorld st ((ns[0]?).getD 0) ((ns[1]?).getD 0) from (if_neg e).trans (if_pos e1)] at k
      exact x_ret (x_call (av_cons (val_var rfl) (av_cons (v_num (i := 0) (val_var rfl) hl (by omega)) (av_cons (v_num (i := 1) (val_var rfl) hl (by omega)) av_nil))) ⟨p, Ls, st, _, _, N, rfl, A, hok, k⟩)
    · have e1 := of_decide_eq_false h3
      refine q_ifn (a_val (v_eq (val_var rfl) val_c)) (fun h4 => ?_) (fun h4 => ?_)
      · have e2 := of_decide_eq_true h4
        rw [show answerOf st op ns row = (st, judge row) from (if_neg e).trans ((if_neg e1).trans (if_pos e2))] at k
        exact x_ret (x_call (av_cons (val_var rfl) av_nil) ⟨r, row, rfl, hr0, by omega, k.newI A⟩)
      · have e2 := of_decide_eq_false h4
        refine q_ifn (a_val (v_eq (val_var rfl) val_c)) (fun h5 => ?_) (fun h5 => ?_)
        · have e3 := of_decide_eq_true h5
          rw [show answerOf st op ns row = (st, schedule row) from (if_neg e).trans ((if_neg e1).trans ((if_neg e2).trans (if_pos e3)))] at k
          exact x_ret (x_call (av_cons (val_var rfl) av_nil) ⟨r, row, rfl, hr0, by omega, hmo, k.newI A⟩)
        · have e3 := of_decide_eq_false h5
          have l1 := h2 e2 e3
          rw [show answerOf st op ns row = inWorld st op ((ns[0]?).getD 0) (if 1 < ns.length then (ns[1]?).getD 0 else 0) row from (if_neg e).trans ((if_neg e1).trans ((if_neg e2).trans (if_neg e3)))] at k
          refine q_set val_c ?_
          have go : ∀ a : Int, a < 2 ^ 61 → PChg c H p Ls (inWorld st op ((ns[0]?).getD 0) a row) Q → AV (tCons (tVar 0) (tCons (tVar 1) (tCons (tOp (rIxL K) (tVar 2) (tC (.int 0))) (tCons (tVar 4) (tCons (tVar 3) tNil))))) [some (.ref p), some (.int op), some (.ref l), some (.ref r), some (.int a)] H [.ref p, .int op, .int ((ns[0]?).getD 0), .int a, .ref r] ∧ sp_in_world K c [.ref p, .int op, .int ((ns[0]?).getD 0), .int a, .ref r] H Q E := fun a ha ka =>
            ⟨av_cons (val_var rfl) (av_cons (val_var rfl) (av_cons (v_num (i := 0) (val_var rfl) hl (by omega)) (av_cons (val_var rfl) (av_cons (val_var rfl) av_nil)))), p, Ls, st, op, _, a, r, row, N, rfl, A, hr0, hrp, hlen, hxr, ha, hok, hN, ka⟩
          refine q_ifn (b := decide (1 < ns.length)) (a_to (a_val (v_gt (v_lenI (val_var rfl) hl) val_c)) (decide_eq_decide.mpr (by omega))) (fun h6 => ?_) (fun h6 => ?_)
          · have e6 := of_decide_eq_true h6
            rw [if_pos e6] at k
            refine st_set (v_num (i := 1) (val_var rfl) hl e6) ?_
            have hb : (ns[1]?).getD 0 < 2 ^ 61 := hx _ (List.mem_of_getElem? (num_at e6))
            obtain ⟨z1, z2⟩ := go _ hb k
            exact x_ret (x_call z1 z2)
          · have e6 := of_decide_eq_false h6
            rw [if_neg e6] at k
            obtain ⟨z1, z2⟩ := go 0 (by decide) k
            exact x_ret (x_call z1 z2)
end
end Tz
namespace Tz
open PySem PySem.Spec PyProof.Rows L2
/-! ### the calls as numbers -/
structure Cl where
  op : Int
  ns : List Int
  row : List Int
def hasRow (op : Int) : Bool := decide (op ∈ ([13, 23, 24] : List Int))
def counts : List Nat := [3, 2, 2, 2, 2, 2, 2, 1, 2, 1, 2, 2, 2, 1, 1, 2, 2, 2, 2, 2, 2, 1, 1, 0, 0]
def Cl.tail (cl : Cl) : List Int := if hasRow cl.op = true then (cl.row.length : Int) :: cl.row else []
def Cl.enc (cl : Cl) : List Int := cl.op :: (cl.ns ++ cl.tail)
def encs (cs : List Cl) : List Int := cs.flatMap Cl.enc
structure Cl.Ok (cl : Cl) : Prop where
  lo : 0 ≤ cl.op
  cnt : counts[cl.op.toNat]? = some cl.ns.length
  norow : hasRow cl.op = false → cl.row = []
  num : ∀ x ∈ cl.ns, x < 2 ^ 61
  rnum : ∀ x ∈ cl.row, x < 2 ^ 61
  rlen : cl.row.length < 20000
def callOn (x : MState × List Int) (cl : Cl) : MState × List Int := ((answerOf x.1 cl.op cl.ns cl.row).1, x.2 ++ ((answerOf x.1 cl.op cl.ns cl.row).2.length : Int) :: (answerOf x.1 cl.op cl.ns cl.row).2)
def st0 : MState := [none, none, none, none]
def runTo (cs : List Cl) : MState × List Int := cs.foldl callOn (st0, [])
structure RunOk (cs : List Cl) : Prop where
  ok : ∀ cl ∈ cs, cl.Ok
  st : ∀ i, i < cs.length → ∃ N, StOk N (runTo (cs.take i)).1 ∧ N < 250000
  len : ∀ i, i ≤ cs.length → (runTo (cs.take i)).2.length ≤ 10000000
  mem : MemOk
def sp_answers (K : PySem.W.Frag) (c : CA) : Sp := fun vs H Q _ => ∃ (a : Addr) (cs : List Cl), vs = [.ref a] ∧ SqL K H a ((encs cs).map V.int) ∧ RunOk cs ∧ ∀ H' q, H' q = some (.lst ((runTo cs).2.map V.int)) → Q (.ref q) H'
theorem encs_split (cs : List Cl) (i : Nat) (h : i < cs.length) : encs cs = encs (cs.take i) ++ (cs[i].enc ++ encs (cs.drop (i + 1))) := by
  have e : cs = cs.take i ++ (cs[i] :: cs.drop (i + 1)) := by
    rw [List.getElem_cons_drop, List.take_append_drop]
  have e2 : encs cs = encs (cs.take i ++ (cs[i] :: cs.drop (i + 1))) := by rw [← e]
  rw [e2]
  unfold encs
  rw [List.flatMap_append, List.flatMap_cons]
theorem encs_take (cs : List Cl) (i : Nat) (h : i < cs.length) : encs (cs.take (i + 1)) = encs (cs.take i) ++ cs[i].enc := by
  rw [List.take_succ_eq_append_getElem h]
  unfold encs
  rw [List.flatMap_append, List.flatMap_cons, List.flatMap_nil, List.append_nil]
theorem runTo_take (cs : List Cl) (i : Nat) (h : i < cs.length) : runTo (cs.take (i + 1)) = callOn (runTo (cs.take i)) cs[i] := by
  unfold runTo
  rw [List.take_succ_eq_append_getElem h, List.foldl_append]
  rfl
section
variable {P : Program} {w : World} {K : PySem.W.Frag} {mg : Str → Option Value} {base : Heap} {c : CA}
variable {σ : L2.St} {H : Hp} {L : WL} {m : MWorld} {p : Addr} {Ls : List (Option WL)} {st : MState} {ta tb tl th : TE} {E : XK} {tt : TA} {D : Ends} {us : TS}
theorem q_while {t : TT} {u : TS} (h : tWhile t u { D with nx := us D } σ H) : tSeq (tWhile t u) us D σ H := h
theorem q_ifjsH {t : TT} {t1 : TS} {b : Bool} {q : Hp → Prop} (R : L2.St → Hp → Prop) (h : AnsH t σ H b q) (k : ∀ σ' H', R σ' H' → us D σ' H') (h1 : b = true → ∀ H1, q H1 → (∀ σ' H', R σ' H' → us D σ' H') → t1 { D with nx := us D } σ H1) (h2 : b = false → ∀ H1, q H1 → R σ H1) : tSeq (tIfS t t1 tNext) us D σ H :=
  s_ifH h (fun e H1 s => h1 e H1 s k) (fun e H1 s => k σ H1 (h2 e H1 s))
theorem x_slice {a : Addr} {xs ys zs : List Int} {lo hi : Int} {Q : VK} (ha : Val ta σ H (.ref a)) (h1 : Val tl σ H (.int lo)) (h2 : Val th σ H (.int hi)) (hx : SqL K H a ((xs ++ (ys ++ zs)).map V.int)) (e1 : lo = ((xs.length : Nat) : Int)) (e2 : hi = (((xs.length + ys.length : Nat)) : Int))
    (q : ∀ p, H p = none → Q (.ref p) (upd H p (.lst (ys.map V.int)))) : tSl (rSlL K) ta (tPart tl) (tPart th) σ H Q := by
  refine ha _ (h1 _ ⟨lo, rfl, h2 _ ⟨hi, rfl, a, _, rfl, hx, fun p hp => ?_⟩⟩)
  have e : cutV ((xs ++ (ys ++ zs)).map V.int) (some lo) (some hi) = ys.map V.int := by
    unfold cutV
    rw [e1, e2, HT.sIx_nat, HT.sIx_nat, List.length_map, List.length_append, List.length_append, Nat.min_eq_left (by omega), Nat.min_eq_left (by omega), ← List.map_drop, ← List.map_take, List.drop_left, Nat.add_sub_cancel_left, List.take_left]
  rw [e]
  exact q p hp
theorem v_atS {a : Addr} {xs zs : List Int} {y i : Int} (ha : Val ta σ H (.ref a)) (hb : Val tb σ H (.int i)) (hx : SqL K H a ((xs ++ y :: zs).map V.int)) (e : i = ((xs.length : Nat) : Int)) : Val (tOp (rIxL K) ta tb) σ H (.int y) :=
  v_ixL ha hb hx (get_atI e (by rw [List.map_append, List.getElem?_append_right (by rw [List.length_map] <;> exact Nat.le_refl _), List.length_map, Nat.sub_self] <;> rfl))
theorem counts_map : (counts.map fun n : Nat => V.int (n : Int)) = ([.int 3, .int 2, .int 2, .int 2, .int 2, .int 2, .int 2, .int 1, .int 2, .int 1, .int 2, .int 2, .int 2, .int 1, .int 1, .int 2, .int 2, .int 2, .int 2, .int 2, .int 2, .int 1, .int 1, .int 0, .int 0] : List V) := rfl
theorem counts_pos {cl : Cl} (ok : cl.Ok) (e1 : cl.op ≠ 23) (e2 : cl.op ≠ 24) : 1 ≤ cl.ns.length := by
  have h := ok.cnt
  have h0 := ok.lo
  have h1 : cl.op.toNat < counts.length := by
    by_cases q : cl.op.toNat < counts.length
    · exact q
    · rw [List.getElem?_eq_none (by omega)] at h
      cases h
  have h2 : cl.op.toNat < 25 := h1
  have h3 : cl.op.toNat < 23 := by omega
  have all : ∀ i, i < 23 → ∀ n, counts[i]? = some n → 1 ≤ n := by decide
  exact all _ h3 _ h
theorem tail_len (cl : Cl) (ok : cl.Ok) : hasRow cl.op = false → cl.tail = [] := fun h => by
  unfold Cl.tail
  rw [h] <;> rfl
theorem tail_row (cl : Cl) : hasRow cl.op = true → cl.tail = (cl.row.length : Int) :: cl.row := fun h => by
  unfold Cl.tail
  rw [h] <;> rfl
theorem s_append7 (ha : Val ta σ H (.ref l)) (hl : H l = some (.lst xs)) (h : Val te σ H v) (hz : xs.length < 10000000) (k : D.nx σ (upd H l (.lst (xs ++ [v])))) : tDrop (tBM K "list" rAppend ta (tCons te tNil)) D σ H :=
  ha _ ⟨.inl ⟨rfl, xs, SqL.of hl⟩, h _ ⟨l, xs, v, rfl, rfl, hl, Nat.lt_of_lt_of_le hz (by decide), k⟩⟩
/-- xs.append((..)) -/
theorem q_append7 (ha : Val ta σ H (.ref l)) (hl : H l = some (.lst xs)) (h : Val te σ H v) (hz : xs.length < 10000000) (k : us D σ (upd H l (.lst (xs ++ [v])))) : tSeq (tDrop (tBM K "list" rAppend ta (tCons te tNil))) us D σ H :=
  s_append7 (D := { D with nx := us D }) ha hl h hz k
theorem ok_answers {f : Addr} {fd : FuncData} (F : Fun K "answers" "answers" s_answers f fd) (T : Txt K mg c) (D_answer_of : DefOk P w K mg base "answer_of" 11 ["places", "op", "numbers", "row"] (sp_answer_of K c)) (D_has_row : DefOk P w K mg base "has_row" 1 ["op"] (sp_has_row K c)) : FnOk P w K mg base CX0 12 f fd ["calls"] (sp_answers K c) := by
  refine F.ok sc_answers (fun vs H Q E h => ?_) (fun cdv A outer s H vs Q E hr h => ?_)
  · obtain ⟨a, cs, rfl, hS, R, k⟩ := h
    rfl
  obtain ⟨a, cs, rfl, hS, R, k⟩ := h
  refine ⟨_, (pss_cons (ps_setLc (i := 1) (own := [("number", 9)]) (g := gName 9) (tt := tYes) rfl sc_answers.nd rfl rfl (sw_true rfl rfl rfl (by decide +kernel)) (pi_range1 (by rfl) T.z_range (pa_cons (pe_gc T.g_PLACES) pa_nil)) (blkOk_by (own := [("number", 9)]) (N := n_answers) (sc := defScope s_answers) (by decide +kernel)) (fun _ _ _ _ _ => pg_name (i := 9) sc_answers.nd rfl (Or.inl rfl)) (fun _ _ _ _ _ => pts_nil) (fun _ _ _ _ _ => pe_non))
      (pss_cons (ps_set (i := 2) sc_answers.nd rfl (Or.inl rfl) (pe_lst pa_nil))
      (pss_cons (ps_set (i := 3) sc_answers.nd rfl (Or.inl rfl) pe_int)
      (pss_cons (ps_while PassesOwn.never (pt_cmpR op_lt (pv 3) (pe_callB call_len_seq (by rfl) T.z_len PySem.boot_len (pa_cons (pv 0) pa_nil)) (nomark _)) (pss_cons (ps_set (i := 4) sc_answers.nd rfl (Or.inl rfl) (pe_ix ix_list (pv 0) (pv 3) (fun _ _ => rfl)))
      (pss_cons (ps_set (i := 5) sc_answers.nd rfl (Or.inl rfl) (pe_op op_add (pv 3) pe_int))
      (pss_cons (ps_set (i := 3) sc_answers.nd rfl (Or.inl rfl) (pe_op op_add (pv 5) (pe_ix ix_tup (pe_glob (v := .ref c.co) rfl T.g_COUNTS rfl) (pv 4) (fun _ _ => rfl))))
      (pss_cons (ps_set (i := 6) sc_answers.nd rfl (Or.inl rfl) (pe_slice sl_list (pv 0) (po_some (pv 5)) (po_some (pv 3))))
      (pss_cons (ps_set (i := 7) sc_answers.nd rfl (Or.inl rfl) (pe_lst pa_nil))
      (pss_cons (ps_if (pt_val (pe_callD D_has_row (hr.mono (by decide)) (pa_cons (pv 4) pa_nil))) (pss_cons (ps_set (i := 5) sc_answers.nd rfl (Or.inl rfl) (pe_op op_add (pv 3) pe_int))
      (pss_cons (ps_set (i := 3) sc_answers.nd rfl (Or.inl rfl) (pe_op op_add (pv 5) (pe_ix ix_list (pv 0) (pv 3) (fun _ _ => rfl))))
      (pss_one (ps_set (i := 7) sc_answers.nd rfl (Or.inl rfl) (pe_slice sl_list (pv 0) (po_some (pv 5)) (po_some (pv 3))))))) pss_nil)
      (pss_cons (ps_set (i := 8) sc_answers.nd rfl (Or.inl rfl) (pe_callD D_answer_of (hr.mono (by decide)) (pa_cons (pv 1) (pa_cons (pv 4) (pa_cons (pv 6) (pa_cons (pv 7) pa_nil))))))
      (pss_cons (ps_expr (pe_bm PySem.F.plainAttrs_list PySem.F.slot_list_append PySem.F.type_list_append mt_append (pv 2) (pa_cons (pe_callB call_len_seq (by rfl) T.z_len PySem.boot_len (pa_cons (pv 8) pa_nil)) pa_nil)))
      (pss_one (ps_expr (pe_bm PySem.F.plainAttrs_list PySem.F.slot_list_extend PySem.F.type_list_extend mt_extend (pv 2) (pa_cons (pv 8) pa_nil)))))))))))))
      (pss_one (ps_ret (pv 2))))))), ?_⟩
  refine q_xset (x_lc_rep (n := 4) (v := .non) val_c (by decide) (fun _ _ => val_c) (fun _ => rfl) fun p hp => ?_)
  refine q_xset (x_lst av_nil fun q hq => ?_)
  refine q_set val_c (q_while ?_)
  generalize hH0 : upd (upd H p (.lst (List.replicate 4 V.non))) q (.lst []) = H0
  have hqp : q ≠ p := fun z => by
    rw [z, upd_same] at hq
    cases hq
  have s0 : Same H H0 := by
    rw [← hH0]
    exact (same_new hp).trans (same_new hq)
  have A0 : PlacesAt c H0 p [none, none, none, none] st0 := by
    refine ⟨?_, rfl, rfl, fun i L hi => ?_, fun i hi => ?_, fun i j L L' _ hi => ?_, fun i L hi => ?_⟩
    · rw [← hH0, upd_ne hqp.symm, upd_same]
      rfl
    · match i, hi with
      | 0, hi | 1, hi | 2, hi | 3, hi => cases hi
      | i + 4, hi => cases hi
    · exact match i, hi with
      | 0, _ | 1, _ | 2, _ | 3, _ => rfl
      | i + 4, hi => by cases hi
    · match i, hi with
      | 0, hi | 1, hi | 2, hi | 3, hi => cases hi
      | i + 4, hi => cases hi
    · match i, hi with
      | 0, hi | 1, hi | 2, hi | 3, hi => cases hi
      | i + 4, hi => cases hi
  have q0 : q ∉ plFp p [none, none, none, none] := by
    intro z
    rcases (plFp_mem _ _ _).mp z with z | ⟨i, L, hi, _⟩
    · exact hqp z
    · match i, hi with
      | 0, hi | 1, hi | 2, hi | 3, hi => cases hi
      | i + 4, hi => cases hi
  refine ⟨fun m σ' H' => ∃ (i : Nat) (Ls : List (Option WL)) (v4 v5 v6 v7 v8 : Option V), m = cs.length - i ∧ i ≤ cs.length ∧ σ' = [some (.ref a), some (.ref p), some (.ref q), some (.int ((encs (cs.take i)).length : Int)), v4, v5, v6, v7, v8, none] ∧ PlacesAt c H' p Ls (runTo (cs.take i)).1 ∧
    H' q = some (.lst ((runTo (cs.take i)).2.map V.int)) ∧ q ∉ plFp p Ls ∧ Mv [] H (q :: plFp p Ls) H' , ⟨_, 0, _, none, none, none, none, none, rfl, Nat.zero_le _, rfl, A0, by rw [← hH0, upd_same]; rfl, q0, by rw [← hH0]; exact ((Mv.refl [] H).lay hp).lay hq⟩, ?_⟩
  rintro m σ' H1 ⟨i, Ls, v4, v5, v6, v7, v8, rfl, hi, rfl, A, hf, hqn, mv1⟩
  have s1 := mv1.same
  have hS1 := s1.seq hS
  refine a_val (v_lt (val_var rfl) (v_len (val_var rfl) hS1)) _ ?_
  by_cases hlt : i < cs.length
  · have es := encs_split cs i hlt
    have et := encs_take cs i hlt
    have er := runTo_take cs i hlt
    have ok := R.ok cs[i] (List.getElem_mem hlt)
    obtain ⟨N, hst, hN⟩ := R.st i hlt
    have hlen2 := R.len (i + 1) hlt
    generalize cs[i] = cl at es et er ok
    generalize hpre : encs (cs.take i) = pre at es et hf
    generalize hpost : encs (cs.drop (i + 1)) = post at es
    generalize runTo (cs.take i) = x at A hf er hst
    have hcond : decide ((pre.length : Int) < (((encs cs).map V.int).length : Int)) = true := by
      refine decide_eq_true ?_
      rw [List.length_map, es, List.length_append, List.length_append]
      unfold Cl.enc
      rw [List.length_cons]
      omega
    rw [if_pos hcond]
    refine ⟨_, fun σ' H' z => z, ?_⟩
    rw [es] at hS1
    have ee : cl.enc = cl.op :: (cl.ns ++ cl.tail) := rfl
    rw [ee] at hS1
    refine q_set (v_atS (val_var rfl) (val_var rfl) hS1 rfl) ?_
    refine q_set (v_add (val_var rfl) val_c) ?_
    have hco : atI ([.int 3, .int 2, .int 2, .int 2, .int 2, .int 2, .int 2, .int 1, .int 2, .int 1, .int 2, .int 2, .int 2, .int 1, .int 1, .int 2, .int 2, .int 2, .int 2, .int 2, .int 2, .int 1, .int 1, .int 0, .int 0] : List V) cl.op = some (.int (cl.ns.length : Int)) := by
      rw [← counts_map]
      refine get_atI (k := cl.op.toNat) (by have := ok.lo; omega) ?_
      rw [List.getElem?_map, ok.cnt]
      rfl
    refine q_set (v_add (val_var rfl) (v_ixT val_c (val_var rfl) (T.t_COUNTS H1) hco)) ?_
    -- numbers
    have hS2 : SqL K H1 a (((pre ++ [cl.op]) ++ (cl.ns ++ (cl.tail ++ post))).map V.int) := by
      have e : (pre ++ [cl.op]) ++ (cl.ns ++ (cl.tail ++ post)) = pre ++ (cl.op :: (cl.ns ++ cl.tail) ++ post) := by simp
      rw [e]
      exact hS1
    refine q_xset (x_slice (val_var rfl) (val_var rfl) (val_var rfl) hS2 (by rw [List.length_append, List.length_singleton]; omega) (by rw [List.length_append, List.length_singleton]; omega) fun nl hnl => ?_)
    refine q_xset (x_lst av_nil fun rl hrl => ?_)
    generalize hH2 : upd (upd H1 nl (.lst (cl.ns.map V.int))) rl (.lst []) = H2
    have s2 : Same H1 H2 := by
      rw [← hH2]
      exact (same_new hnl).trans (same_new hrl)
    have hnl2 : H2 nl = some (.lst (cl.ns.map V.int)) := by
      rw [← hH2]
      exact same_new hrl _ _ upd_same
    have hrl2 : H2 rl = some (.lst (([] : List Int).map V.int)) := by
      rw [← hH2, upd_same]
      rfl
    have hrl1 : H1 rl = none := (same_new hnl).free hrl
    have eL : ((pre ++ cl.enc).length : Int) = (pre.length : Int) + 1 + (cl.ns.length : Int) + (cl.tail.length : Int) := by
      rw [ee, List.length_append, List.length_cons, List.length_append]
      omega
    refine q_ifjsH (q := Same H2) (fun σ' H' => ∃ (v5' : Option V) (r3 : Addr), σ' = [some (.ref a), some (.ref p), some (.ref q), some (.int ((pre ++ cl.enc).length : Int)), some (.int cl.op), v5', some (.ref nl), some (.ref r3), v8, none] ∧ Same H2 H' ∧ H' r3 = some (.lst (cl.row.map V.int)) ∧ H1 r3 = none)
      (a_callS (b := hasRow cl.op) (av_cons (val_var rfl) av_nil) fun Q hQ => ⟨cl.op, rfl, hQ⟩) ?_ ?_ ?_
    · rintro σ' H3 ⟨v5', r3, rfl, s3, hr3, hr1⟩
      have A3 := (A.same s2).same s3
      have hf3 := s3 _ _ (s2 _ _ hf)
      have hr3p : r3 ∉ plFp p Ls := fun z => by
        obtain ⟨o, e⟩ := A.live r3 z
        rw [hr1] at e
        cases e
      refine q_xset (x_call (av_cons (val_var rfl) (av_cons (val_var rfl) (av_cons (val_var rfl) (av_cons (val_var rfl) av_nil)))) ?_)
      have hc0 : cl.op = 0 → 3 ≤ cl.ns.length := fun e => by
        have h := ok.cnt
        rw [e] at h
        have h2 : (3 : Nat) = cl.ns.length := Option.some.inj h
        omega
      have hc1 : cl.op = 1 → 2 ≤ cl.ns.length := fun e => by
        have h := ok.cnt
        rw [e] at h
        have h2 : (2 : Nat) = cl.ns.length := Option.some.inj h
        omega
      have hc2 : cl.op ≠ 23 → cl.op ≠ 24 → 1 ≤ cl.ns.length := fun e1 e2 => counts_pos ok e1 e2
      refine ⟨p, Ls, x.1, cl.op, nl, cl.ns, r3, cl.row, N, rfl, A3, s3 _ _ hnl2, hc0, hc1, hc2, ok.num, hr3, hr3p, Nat.lt_trans ok.rlen (by decide), ok.rnum, hst, by have := ok.rlen; omega, R.mem, fun H4 Ls' r A4 mv hr hir => ?_⟩
      rw [er] at hlen2
      unfold callOn at hlen2 er
      generalize answerOf x.1 cl.op cl.ns cl.row = z at *
      have hq3 : q ∉ plFp p Ls' := mv.live hf3 hqn
      have hf4 := mv.get hf3 hqn
      have hrq : r ≠ q := (ne_of_none hf3 hr).symm
      have hlz : x.2.length + (z.2.length + 1) ≤ 10000000 := by
        have := hlen2
        rw [List.length_append, List.length_cons] at this
        exact this
      unfold Ints at hir
      refine q_append7 (val_var rfl) hf4 (v_lenI (val_var rfl) hir) (by rw [List.length_map]; omega) ?_
      have m5 : Mv [q] H4 [q] (upd H4 q (.lst (x.2.map V.int ++ [V.int (z.2.length : Int)]))) := .updL (by simp) hf4
      refine x_drop (x_bm (val_var rfl) upd_same (x_cons1 (val_var rfl _ ⟨q, r, _, _, rfl, rfl, upd_same, by rw [upd_ne hrq]; exact hir, ?_, ?_⟩)))
      · rw [List.length_append, List.length_map, List.length_map, List.length_singleton]
        exact Nat.le_trans (show x.2.length + 1 + z.2.length ≤ 10000000 by omega) (by decide)
      · have m6 : Mv [q] (upd H4 q (.lst (x.2.map V.int ++ [V.int (z.2.length : Int)]))) [q] (upd (upd H4 q (.lst (x.2.map V.int ++ [V.int (z.2.length : Int)]))) q (.lst (x.2.map V.int ++ [V.int (z.2.length : Int)] ++ z.2.map V.int))) := .updL (by simp) upd_same
        refine ⟨cs.length - (i + 1), by omega, i + 1, Ls', some (.int cl.op), v5', some (.ref nl), some (.ref r3), some (.ref r), rfl, by omega, ?_, (by rw [er]; exact A4.mv (m5.trans m6) fun b hb hbq => hq3 (List.mem_singleton.mp hbq ▸ hb)), ?_, hq3, ?_⟩
        · rw [et]
          rfl
        · rw [upd_same, er]
          simp
        · have g3 : Mv [] H (q :: plFp p Ls) H3 := mv1.grow (s2.trans s3) fun b hb => .inl hb
          have g4 : Mv (q :: plFp p Ls) H3 (q :: plFp p Ls') H4 := mv.sub (fun b hb => List.mem_cons_of_mem _ hb) fun b hb => by
            rcases List.mem_cons.mp hb with rfl | hb
            · exact .inr (.inl List.mem_cons_self)
            · exact .inl hb
          exact (g3.trans g4).trans (.in1 List.mem_cons_self (m5.trans m6))
    · intro hb H3 s3 go
      have er0 := tail_row cl hb
      have hS3 : SqL K H3 a (((pre ++ (cl.op :: cl.ns)) ++ (cl.row.length : Int) :: (cl.row ++ post)).map V.int) := by
        have e : (pre ++ (cl.op :: cl.ns)) ++ (cl.row.length : Int) :: (cl.row ++ post) = pre ++ (cl.op :: (cl.ns ++ cl.tail) ++ post) := by
          rw [er0]
          simp
        rw [e]
        exact s3.seq (s2.seq hS1)
      have hS4 : SqL K H3 a ((((pre ++ (cl.op :: cl.ns)) ++ [(cl.row.length : Int)]) ++ (cl.row ++ post)).map V.int) := by
        have e : ((pre ++ (cl.op :: cl.ns)) ++ [(cl.row.length : Int)]) ++ (cl.row ++ post) = (pre ++ (cl.op :: cl.ns)) ++ (cl.row.length : Int) :: (cl.row ++ post) := by simp
        rw [e]
        exact hS3
      have el : (pre.length : Int) + 1 + (cl.ns.length : Int) = (((pre ++ (cl.op :: cl.ns)).length : Nat) : Int) := by
        rw [List.length_append, List.length_cons]
        omega
      refine q_set (v_add (val_var rfl) val_c) (q_set (v_add (val_var rfl) (v_atS (val_var rfl) (val_var rfl) hS3 el)) ?_)
      refine x_set (x_slice (val_var rfl) (val_var rfl) (val_var rfl) hS4 ?_ ?_ fun r3 hr3 => go _ _ ⟨some (.int ((pre.length : Int) + 1 + (cl.ns.length : Int) + 1)), r3, ?_, s3.trans (same_new hr3), upd_same, s2.free (s3.free hr3)⟩)
      · rw [el, List.length_append (bs := [(cl.row.length : Int)]), List.length_singleton]
        omega
      · rw [el, List.length_append (bs := [(cl.row.length : Int)]), List.length_singleton]
        omega
      · rw [eL, er0, List.length_cons]
        have e2 : (pre.length : Int) + 1 + (cl.ns.length : Int) + ((cl.row.length + 1 : Nat) : Int) = (pre.length : Int) + 1 + (cl.ns.length : Int) + 1 + (cl.row.length : Int) := by omega
        rw [e2]
        rfl
    · intro hb H3 s3
      have er0 : cl.row = [] := ok.norow hb
      have et0 := tail_len cl ok hb
      refine ⟨some (.int ((pre.length : Int) + 1)), rl, ?_, s3, by rw [er0]; exact s3 _ _ hrl2, hrl1⟩
      rw [eL, et0, List.length_nil]
      have e2 : (pre.length : Int) + 1 + (cl.ns.length : Int) + ((0 : Nat) : Int) = (pre.length : Int) + 1 + (cl.ns.length : Int) := by omega
      rw [e2]
      rfl
  · have hi2 : i = cs.length := by omega
    have et : cs.take i = cs := List.take_of_length_le (by omega)
    rw [et] at hf ⊢
    have hcond : decide (((encs cs).length : Int) < (((encs cs).map V.int).length : Int)) = false := by
      rw [List.length_map]
      exact decide_eq_false (by omega)
    rw [if_neg (by rw [hcond]; exact Bool.false_ne_true)]
    exact st_ret (val_var rfl) (k H1 q hf)
end
end Tz
namespace Tz
open PySem PySem.Spec PyProof.Rows L2
def hfa0 : List He.Fa := [.glo "has_client",
  .keep "has_client",
  .glo "ask",
  .keep "ask",
  .glo "turn_client",
  .keep "turn_client",
  .glo "move_message",
  .keep "move_message",
  .glo "turn_service",
  .keep "turn_service",
  .glo "calm",
  .keep "calm",
  .glo "change",
  .keep "change",
  .glo "is_step",
  .keep "is_step",
  .glo "is_step_list",
  .keep "is_step_list",
  .glo "run_steps",
  .keep "run_steps",
  .glo "is_event",
  .keep "is_event",
  .glo "is_event_list",
  .keep "is_event_list",
  .glo "events_of",
  .keep "events_of",
  .glo "last_request",
  .keep "last_request",
  .glo "is_unanswered",
  .keep "is_unanswered"]
def hfa1 : List He.Fa := [.glo "was_received",
  .keep "was_received",
  .glo "highest_received",
  .keep "highest_received",
  .glo "is_right_request",
  .keep "is_right_request",
  .glo "fault_of_receipt",
  .keep "fault_of_receipt",
  .glo "fault_of",
  .keep "fault_of",
  .glo "verdict",
  .keep "verdict",
  .glo "judge",
  .keep "judge",
  .glo "truth",
  .keep "truth",
  .glo "page",
  .keep "page",
  .glo "get_service",
  .keep "get_service",
  .glo "get_client",
  .keep "get_client",
  .glo "history",
  .keep "history",
  .glo "order",
  .keep "order",
  .glo "get_statistics",
  .keep "get_statistics",
  .glo "get_restart_values",
  .keep "get_restart_values"]
def hfa2 : List He.Fa := [.mkr "Plan",
  .meth "Plan" "__init__",
  .meth "Plan" "step",
  .meth "Plan" "boot_up",
  .meth "Plan" "plan_request",
  .meth "Plan" "make_stamp",
  .meth "Plan" "plan_pending",
  .meth "Plan" "pass_stamp",
  .meth "Plan" "plan_new",
  .glo "owner_of",
  .keep "owner_of",
  .glo "is_too_large",
  .keep "is_too_large",
  .glo "planned",
  .keep "planned",
  .glo "schedule",
  .keep "schedule",
  .mkr "Party",
  .meth "Party" "__init__",
  .meth "Party" "ask",
  .meth "Party" "accepts",
  .meth "Party" "receive",
  .meth "Party" "crash",
  .meth "Party" "restart",
  .meth "Party" "last_received",
  .meth "Party" "twin",
  .mkr "Disk",
  .meth "Disk" "__init__",
  .meth "Disk" "current",
  .meth "Disk" "write"]
def hfa3 : List He.Fa := [.meth "Disk" "force",
  .meth "Disk" "crash",
  .meth "Disk" "held",
  .meth "Disk" "twin",
  .mkr "Service",
  .meth "Service" "__init__",
  .meth "Service" "write_if_needed",
  .meth "Service" "serve",
  .meth "Service" "force",
  .meth "Service" "crash",
  .meth "Service" "restart",
  .meth "Service" "twin",
  .mkr "World",
  .meth "World" "__init__",
  .meth "World" "send_request",
  .meth "World" "make_request",
  .meth "World" "take",
  .meth "World" "arrive",
  .meth "World" "arrive_request",
  .meth "World" "arrive_reply",
  .meth "World" "force",
  .meth "World" "crash_service",
  .meth "World" "restart_service",
  .meth "World" "calm_round",
  .meth "World" "twin",
  .glo "is_place",
  .keep "is_place",
  .glo "open_world",
  .keep "open_world",
  .glo "copy_world"]
def hfa4 : List He.Fa := [.keep "copy_world",
  .glo "is_second_out",
  .keep "is_second_out",
  .glo "rows_of",
  .keep "rows_of",
  .glo "look",
  .keep "look",
  .glo "in_world",
  .keep "in_world",
  .glo "answer_of",
  .keep "answer_of",
  .glo "has_row",
  .keep "has_row",
  .glo "answers",
  .keep "answers",
  .glo "Disk",
  .cls "Disk",
  .noat "Disk" "forced",
  .noat "Disk" "unforced",
  .glo "Party",
  .cls "Party",
  .noat "Party" "up",
  .noat "Party" "waiting",
  .noat "Party" "boot",
  .noat "Party" "nonce",
  .noat "Party" "received",
  .glo "Service",
  .cls "Service",
  .noat "Service" "up",
  .noat "Service" "disk"]
def hfa5 : List He.Fa := [.noat "Service" "next_stamp",
  .noat "Service" "outbox",
  .noat "Service" "life",
  .glo "World",
  .cls "World",
  .noat "World" "reserve",
  .noat "World" "service",
  .noat "World" "parties",
  .noat "World" "network",
  .noat "World" "trace",
  .glo "Plan",
  .cls "Plan",
  .noat "Plan" "steps",
  .noat "Plan" "boots",
  .noat "Plan" "next_stamp",
  .noat "Plan" "pending",
  .free "len",
  .free "min",
  .free "max",
  .free "range",
  .free "list",
  .free "sorted",
  .int "REQUEST_changes" 2,
  .int "CRASH_CLIENT" 10,
  .int "DELIVER" 4,
  .int "DROP" 5,
  .int "RESTART_SERVICE" 9,
  .int "FORCE" 7,
  .int "REPEAT" 3,
  .int "DUPLICATE" 6]
def hfa6 : List He.Fa := [.int "CRASH_SERVICE" 8,
  .int "RESTART_CLIENT" 11,
  .int "CALM_changes" 12,
  .int "MOST_ROUNDS_changes" 20,
  .int "MOST_STEP_NUMBERS" 1400,
  .int "FIRST_STEP" 2,
  .int "REQUEST_histories" 0,
  .int "RECEIPT_histories" 1,
  .int "MOST_CLIENTS_histories" 8,
  .int "MOST_NUMBER" 1000000000,
  .int "EVENT" 5,
  .int "MOST_JUDGED" 300,
  .int "PAGE" 50,
  .int "REQUESTED_looks" 0,
  .int "RECEIVED_looks" 4,
  .int "SENT_looks" 3,
  .int "KINDS" 7,
  .int "CLIENT_PLACES" 9,
  .int "STEP_CRASH_CLIENT" 8,
  .int "STEP_RESTART_CLIENT" 9,
  .int "STEP_REQUEST" 0,
  .int "STEP_DROP" 3,
  .int "STEP_REPEAT" 1,
  .int "STEP_DELIVER" 2,
  .int "STEP_FORCE" 5,
  .int "RECEIPT_scheduler" 1,
  .int "MOST_BOOT" 10,
  .int "MOST_STAMP" 100,
  .int "REQUEST_scheduler" 0,
  .int "MOST_SCHEDULED" 200]
def hfa7 : List He.Fa := [.int "WROTE" 1,
  .int "REPLY" 1,
  .int "MADE" 2,
  .int "SENT_service" 3,
  .int "CRASHED" 5,
  .int "RESTARTED" 6,
  .int "REQUEST_simulation" 0,
  .int "REQUESTED_simulation" 0,
  .int "RECEIVED_simulation" 4,
  .int "PLACES" 4,
  .int "MOST_RESERVE" 20,
  .int "MOST_CLIENTS_worlds" 8,
  .int "CALM_worlds" 12,
  .int "MOST_ROUNDS_worlds" 20,
  .int "GET_NETWORK" 16,
  .int "GET_OUTBOX" 17,
  .int "GET_TRACE" 18,
  .int "GET_HISTORY" 19,
  .int "GET_SERVICE" 14,
  .int "GET_CLIENT" 15,
  .int "GET_ORDER" 20,
  .int "GET_STATISTICS" 21,
  .int "RUN_STEPS" 13,
  .int "OPEN_WORLD" 0,
  .int "COPY_WORLD" 1,
  .int "JUDGE" 23,
  .int "SCHEDULE" 24,
  .glo "COUNTS"]
def hfa : List He.Fa := hfa0 ++ hfa1 ++ hfa2 ++ hfa3 ++ hfa4 ++ hfa5 ++ hfa6 ++ hfa7
def hfn0 : List He.FnD := [⟨("has_client", none), "has_client", "has_client", defArgs s_has_client, defBody s_has_client, defScope s_has_client⟩,
  ⟨("ask", none), "ask", "ask", defArgs s_ask, defBody s_ask, defScope s_ask⟩,
  ⟨("turn_client", none), "turn_client", "turn_client", defArgs s_turn_client, defBody s_turn_client, defScope s_turn_client⟩,
  ⟨("move_message", none), "move_message", "move_message", defArgs s_move_message, defBody s_move_message, defScope s_move_message⟩,
  ⟨("turn_service", none), "turn_service", "turn_service", defArgs s_turn_service, defBody s_turn_service, defScope s_turn_service⟩,
  ⟨("calm", none), "calm", "calm", defArgs s_calm, defBody s_calm, defScope s_calm⟩,
  ⟨("change", none), "change", "change", defArgs s_change, defBody s_change, defScope s_change⟩,
  ⟨("is_step", none), "is_step", "is_step", defArgs s_is_step, defBody s_is_step, defScope s_is_step⟩,
  ⟨("is_step_list", none), "is_step_list", "is_step_list", defArgs s_is_step_list, defBody s_is_step_list, defScope s_is_step_list⟩,
  ⟨("run_steps", none), "run_steps", "run_steps", defArgs s_run_steps, defBody s_run_steps, defScope s_run_steps⟩,
  ⟨("is_event", none), "is_event", "is_event", defArgs s_is_event, defBody s_is_event, defScope s_is_event⟩,
  ⟨("is_event_list", none), "is_event_list", "is_event_list", defArgs s_is_event_list, defBody s_is_event_list, defScope s_is_event_list⟩,
  ⟨("events_of", none), "events_of", "events_of", defArgs s_events_of, defBody s_events_of, defScope s_events_of⟩,
  ⟨("last_request", none), "last_request", "last_request", defArgs s_last_request, defBody s_last_request, defScope s_last_request⟩,
  ⟨("is_unanswered", none), "is_unanswered", "is_unanswered", defArgs s_is_unanswered, defBody s_is_unanswered, defScope s_is_unanswered⟩,
  ⟨("was_received", none), "was_received", "was_received", defArgs s_was_received, defBody s_was_received, defScope s_was_received⟩,
  ⟨("highest_received", none), "highest_received", "highest_received", defArgs s_highest_received, defBody s_highest_received, defScope s_highest_received⟩,
  ⟨("is_right_request", none), "is_right_request", "is_right_request", defArgs s_is_right_request, defBody s_is_right_request, defScope s_is_right_request⟩,
  ⟨("fault_of_receipt", none), "fault_of_receipt", "fault_of_receipt", defArgs s_fault_of_receipt, defBody s_fault_of_receipt, defScope s_fault_of_receipt⟩,
  ⟨("fault_of", none), "fault_of", "fault_of", defArgs s_fault_of, defBody s_fault_of, defScope s_fault_of⟩,
  ⟨("verdict", none), "verdict", "verdict", defArgs s_verdict, defBody s_verdict, defScope s_verdict⟩,
  ⟨("judge", none), "judge", "judge", defArgs s_judge, defBody s_judge, defScope s_judge⟩,
  ⟨("truth", none), "truth", "truth", defArgs s_truth, defBody s_truth, defScope s_truth⟩,
  ⟨("page", none), "page", "page", defArgs s_page, defBody s_page, defScope s_page⟩,
  ⟨("get_service", none), "get_service", "get_service", defArgs s_get_service, defBody s_get_service, defScope s_get_service⟩,
  ⟨("get_client", none), "get_client", "get_client", defArgs s_get_client, defBody s_get_client, defScope s_get_client⟩,
  ⟨("history", none), "history", "history", defArgs s_history, defBody s_history, defScope s_history⟩,
  ⟨("order", none), "order", "order", defArgs s_order, defBody s_order, defScope s_order⟩,
  ⟨("get_statistics", none), "get_statistics", "get_statistics", defArgs s_get_statistics, defBody s_get_statistics, defScope s_get_statistics⟩,
  ⟨("get_restart_values", none), "get_restart_values", "get_restart_values", defArgs s_get_restart_values, defBody s_get_restart_values, defScope s_get_restart_values⟩]
def hfn1 : List He.FnD := [⟨("Plan", some "__init__"), "__init__", "Plan.__init__", defArgs s_Plan_init, defBody s_Plan_init, defScope s_Plan_init⟩,
  ⟨("Plan", some "step"), "step", "Plan.step", defArgs s_Plan_step, defBody s_Plan_step, defScope s_Plan_step⟩,
  ⟨("Plan", some "boot_up"), "boot_up", "Plan.boot_up", defArgs s_Plan_boot_up, defBody s_Plan_boot_up, defScope s_Plan_boot_up⟩,
  ⟨("Plan", some "plan_request"), "plan_request", "Plan.plan_request", defArgs s_Plan_plan_request, defBody s_Plan_plan_request, defScope s_Plan_plan_request⟩,
  ⟨("Plan", some "make_stamp"), "make_stamp", "Plan.make_stamp", defArgs s_Plan_make_stamp, defBody s_Plan_make_stamp, defScope s_Plan_make_stamp⟩,
  ⟨("Plan", some "plan_pending"), "plan_pending", "Plan.plan_pending", defArgs s_Plan_plan_pending, defBody s_Plan_plan_pending, defScope s_Plan_plan_pending⟩,
  ⟨("Plan", some "pass_stamp"), "pass_stamp", "Plan.pass_stamp", defArgs s_Plan_pass_stamp, defBody s_Plan_pass_stamp, defScope s_Plan_pass_stamp⟩,
  ⟨("Plan", some "plan_new"), "plan_new", "Plan.plan_new", defArgs s_Plan_plan_new, defBody s_Plan_plan_new, defScope s_Plan_plan_new⟩,
  ⟨("owner_of", none), "owner_of", "owner_of", defArgs s_owner_of, defBody s_owner_of, defScope s_owner_of⟩,
  ⟨("is_too_large", none), "is_too_large", "is_too_large", defArgs s_is_too_large, defBody s_is_too_large, defScope s_is_too_large⟩,
  ⟨("planned", none), "planned", "planned", defArgs s_planned, defBody s_planned, defScope s_planned⟩,
  ⟨("schedule", none), "schedule", "schedule", defArgs s_schedule, defBody s_schedule, defScope s_schedule⟩,
  ⟨("Party", some "__init__"), "__init__", "Party.__init__", defArgs s_Party_init, defBody s_Party_init, defScope s_Party_init⟩,
  ⟨("Party", some "ask"), "ask", "Party.ask", defArgs s_Party_ask, defBody s_Party_ask, defScope s_Party_ask⟩,
  ⟨("Party", some "accepts"), "accepts", "Party.accepts", defArgs s_Party_accepts, defBody s_Party_accepts, defScope s_Party_accepts⟩,
  ⟨("Party", some "receive"), "receive", "Party.receive", defArgs s_Party_receive, defBody s_Party_receive, defScope s_Party_receive⟩,
  ⟨("Party", some "crash"), "crash", "Party.crash", defArgs s_Party_crash, defBody s_Party_crash, defScope s_Party_crash⟩,
  ⟨("Party", some "restart"), "restart", "Party.restart", defArgs s_Party_restart, defBody s_Party_restart, defScope s_Party_restart⟩,
  ⟨("Party", some "last_received"), "last_received", "Party.last_received", defArgs s_Party_last_received, defBody s_Party_last_received, defScope s_Party_last_received⟩,
  ⟨("Party", some "twin"), "twin", "Party.twin", defArgs s_Party_twin, defBody s_Party_twin, defScope s_Party_twin⟩,
  ⟨("Disk", some "__init__"), "__init__", "Disk.__init__", defArgs s_Disk_init, defBody s_Disk_init, defScope s_Disk_init⟩,
  ⟨("Disk", some "current"), "current", "Disk.current", defArgs s_Disk_current, defBody s_Disk_current, defScope s_Disk_current⟩,
  ⟨("Disk", some "write"), "write", "Disk.write", defArgs s_Disk_write, defBody s_Disk_write, defScope s_Disk_write⟩,
  ⟨("Disk", some "force"), "force", "Disk.force", defArgs s_Disk_force, defBody s_Disk_force, defScope s_Disk_force⟩,
  ⟨("Disk", some "crash"), "crash", "Disk.crash", defArgs s_Disk_crash, defBody s_Disk_crash, defScope s_Disk_crash⟩,
  ⟨("Disk", some "held"), "held", "Disk.held", defArgs s_Disk_held, defBody s_Disk_held, defScope s_Disk_held⟩,
  ⟨("Disk", some "twin"), "twin", "Disk.twin", defArgs s_Disk_twin, defBody s_Disk_twin, defScope s_Disk_twin⟩,
  ⟨("Service", some "__init__"), "__init__", "Service.__init__", defArgs s_Service_init, defBody s_Service_init, defScope s_Service_init⟩,
  ⟨("Service", some "write_if_needed"), "write_if_needed", "Service.write_if_needed", defArgs s_Service_write_if_needed, defBody s_Service_write_if_needed, defScope s_Service_write_if_needed⟩,
  ⟨("Service", some "serve"), "serve", "Service.serve", defArgs s_Service_serve, defBody s_Service_serve, defScope s_Service_serve⟩]
def hfn2 : List He.FnD := [⟨("Service", some "force"), "force", "Service.force", defArgs s_Service_force, defBody s_Service_force, defScope s_Service_force⟩,
  ⟨("Service", some "crash"), "crash", "Service.crash", defArgs s_Service_crash, defBody s_Service_crash, defScope s_Service_crash⟩,
  ⟨("Service", some "restart"), "restart", "Service.restart", defArgs s_Service_restart, defBody s_Service_restart, defScope s_Service_restart⟩,
  ⟨("Service", some "twin"), "twin", "Service.twin", defArgs s_Service_twin, defBody s_Service_twin, defScope s_Service_twin⟩,
  ⟨("World", some "__init__"), "__init__", "World.__init__", defArgs s_World_init, defBody s_World_init, defScope s_World_init⟩,
  ⟨("World", some "send_request"), "send_request", "World.send_request", defArgs s_World_send_request, defBody s_World_send_request, defScope s_World_send_request⟩,
  ⟨("World", some "make_request"), "make_request", "World.make_request", defArgs s_World_make_request, defBody s_World_make_request, defScope s_World_make_request⟩,
  ⟨("World", some "take"), "take", "World.take", defArgs s_World_take, defBody s_World_take, defScope s_World_take⟩,
  ⟨("World", some "arrive"), "arrive", "World.arrive", defArgs s_World_arrive, defBody s_World_arrive, defScope s_World_arrive⟩,
  ⟨("World", some "arrive_request"), "arrive_request", "World.arrive_request", defArgs s_World_arrive_request, defBody s_World_arrive_request, defScope s_World_arrive_request⟩,
  ⟨("World", some "arrive_reply"), "arrive_reply", "World.arrive_reply", defArgs s_World_arrive_reply, defBody s_World_arrive_reply, defScope s_World_arrive_reply⟩,
  ⟨("World", some "force"), "force", "World.force", defArgs s_World_force, defBody s_World_force, defScope s_World_force⟩,
  ⟨("World", some "crash_service"), "crash_service", "World.crash_service", defArgs s_World_crash_service, defBody s_World_crash_service, defScope s_World_crash_service⟩,
  ⟨("World", some "restart_service"), "restart_service", "World.restart_service", defArgs s_World_restart_service, defBody s_World_restart_service, defScope s_World_restart_service⟩,
  ⟨("World", some "calm_round"), "calm_round", "World.calm_round", defArgs s_World_calm_round, defBody s_World_calm_round, defScope s_World_calm_round⟩,
  ⟨("World", some "twin"), "twin", "World.twin", defArgs s_World_twin, defBody s_World_twin, defScope s_World_twin⟩,
  ⟨("is_place", none), "is_place", "is_place", defArgs s_is_place, defBody s_is_place, defScope s_is_place⟩,
  ⟨("open_world", none), "open_world", "open_world", defArgs s_open_world, defBody s_open_world, defScope s_open_world⟩,
  ⟨("copy_world", none), "copy_world", "copy_world", defArgs s_copy_world, defBody s_copy_world, defScope s_copy_world⟩,
  ⟨("is_second_out", none), "is_second_out", "is_second_out", defArgs s_is_second_out, defBody s_is_second_out, defScope s_is_second_out⟩,
  ⟨("rows_of", none), "rows_of", "rows_of", defArgs s_rows_of, defBody s_rows_of, defScope s_rows_of⟩,
  ⟨("look", none), "look", "look", defArgs s_look, defBody s_look, defScope s_look⟩,
  ⟨("in_world", none), "in_world", "in_world", defArgs s_in_world, defBody s_in_world, defScope s_in_world⟩,
  ⟨("answer_of", none), "answer_of", "answer_of", defArgs s_answer_of, defBody s_answer_of, defScope s_answer_of⟩,
  ⟨("has_row", none), "has_row", "has_row", defArgs s_has_row, defBody s_has_row, defScope s_has_row⟩,
  ⟨("answers", none), "answers", "answers", defArgs s_answers, defBody s_answers, defScope s_answers⟩]
def hfn : List He.FnD := hfn0 ++ hfn1 ++ hfn2
def hnames0 : List PySem.Str := ["REQUEST_changes",
  "REPEAT",
  "DELIVER",
  "DROP",
  "DUPLICATE",
  "FORCE",
  "CRASH_SERVICE",
  "RESTART_SERVICE",
  "CRASH_CLIENT",
  "RESTART_CLIENT",
  "CALM_changes",
  "MOST_STEP_NUMBERS",
  "MOST_ROUNDS_changes",
  "FIRST_STEP",
  "has_client",
  "ask",
  "turn_client",
  "move_message",
  "turn_service",
  "calm",
  "change",
  "is_step",
  "is_step_list",
  "run_steps",
  "REQUEST_histories",
  "RECEIPT_histories",
  "EVENT",
  "MOST_CLIENTS_histories",
  "MOST_NUMBER",
  "MOST_JUDGED"]
def hnames1 : List PySem.Str := ["is_event",
  "is_event_list",
  "events_of",
  "last_request",
  "is_unanswered",
  "was_received",
  "highest_received",
  "is_right_request",
  "fault_of_receipt",
  "fault_of",
  "verdict",
  "judge",
  "PAGE",
  "REQUESTED_looks",
  "SENT_looks",
  "RECEIVED_looks",
  "KINDS",
  "truth",
  "page",
  "get_service",
  "get_client",
  "history",
  "order",
  "get_statistics",
  "get_restart_values",
  "REQUEST_scheduler",
  "RECEIPT_scheduler",
  "MOST_SCHEDULED",
  "MOST_BOOT",
  "MOST_STAMP"]
def hnames2 : List PySem.Str := ["CLIENT_PLACES",
  "STEP_REQUEST",
  "STEP_REPEAT",
  "STEP_DELIVER",
  "STEP_DROP",
  "STEP_FORCE",
  "STEP_CRASH_CLIENT",
  "STEP_RESTART_CLIENT",
  "Plan",
  "owner_of",
  "is_too_large",
  "planned",
  "schedule",
  "Party",
  "Disk",
  "REPLY",
  "WROTE",
  "MADE",
  "SENT_service",
  "CRASHED",
  "RESTARTED",
  "Service",
  "REQUEST_simulation",
  "REQUESTED_simulation",
  "RECEIVED_simulation",
  "World",
  "OPEN_WORLD",
  "COPY_WORLD",
  "CALM_worlds",
  "RUN_STEPS"]
def hnames3 : List PySem.Str := ["GET_SERVICE",
  "GET_CLIENT",
  "GET_NETWORK",
  "GET_OUTBOX",
  "GET_TRACE",
  "GET_HISTORY",
  "GET_ORDER",
  "GET_STATISTICS",
  "JUDGE",
  "SCHEDULE",
  "PLACES",
  "MOST_RESERVE",
  "MOST_CLIENTS_worlds",
  "MOST_ROUNDS_worlds",
  "COUNTS",
  "is_place",
  "open_world",
  "copy_world",
  "is_second_out",
  "rows_of",
  "look",
  "in_world",
  "answer_of",
  "has_row"]
def hnames : List PySem.Str := hnames0 ++ hnames1 ++ hnames2 ++ hnames3
abbrev hcounts : List He.Dv := [.int 3, .int 2, .int 2, .int 2, .int 2, .int 2, .int 2, .int 1, .int 2, .int 1, .int 2, .int 2, .int 2, .int 1, .int 1, .int 2, .int 2, .int 2, .int 2, .int 2, .int 2, .int 1, .int 1, .int 0, .int 0]
abbrev hR : PySem.W.OpenSpec := PySem.Challenge.rw_timestampservice_s01_answers
abbrev hQ : Program := PySem.W.view hR.prog [123]
abbrev AlZ : Type := He.Al × Bool
/-- what is not in the mask, once -/
def dedZ : List Addr → Nat → List Addr
  | [], _ => []
  | a :: r, m => match Nat.beq (Nat.land 1 (Nat.shiftRight m a)) 0 with
    | true => a :: dedZ r (Nat.lor m (Nat.shiftLeft 1 a))
    | false => dedZ r m
def maskZ : List Addr → Nat → Nat
  | [], m => m
  | a :: r, m => maskZ r (Nat.lor m (Nat.shiftLeft 1 a))
def refsZ (g : Addr → Option Obj) : List Addr → List Addr
  | [] => []
  | a :: r => (match g a with
    | some o => He.refsO o
    | none => []) ++ refsZ g r
/-- what a list of objects reaches in so many steps -/
def asZ (g : Addr → Option Obj) : Nat → List Addr → Nat → List Addr
  | 0, f, _ => f
  | n + 1, f, m => f ++ asZ g n (dedZ (refsZ g f) m) (maskZ (dedZ (refsZ g f) m) m)
def frZ (g : Addr → Option Obj) : PySem.W.Frag := He.frG g (asZ g 5 [mainGlobals] (Nat.shiftLeft 1 mainGlobals))
def obsZ (g : Addr → Option Obj) : AlZ := (fun K => (He.obsE hfa hfn K, He.tupB K "COUNTS" hcounts)) (frZ g)
def valZ : AlZ := (He.valE hfn, true)
def hookZ : PySem.W.Hook where
  α := AlZ
  obs := fun s => obsZ s.heap.get?
  val := fun _ => valZ
  says := fun _ h => ∃ K : PySem.W.Frag, K.In h ∧ He.SaysE hfa hfn K ∧ He.tupB K "COUNTS" hcounts = true
  of := fun _ _ e => ⟨_, He.frG_in, congrArg (fun z : AlZ => z.1) e, congrArg (fun z : AlZ => z.2) e⟩
  keeps := fun _ _ _ ⟨K, hK, c⟩ k => ⟨K, PySem.W.Frag.In.keeps hK k, c⟩
def obZ (s : PySem.W.SharedT) : AlZ := obsZ (HandSHeadRun.getT s)
theorem obZ_eq (s : PySem.W.SharedT) : obZ s = hookZ.obs s.abs := by
  have e : HandSHeadRun.getT s = s.abs.heap.get? := funext (HandSHeadRun.getT_eq s)
  unfold obZ
  rw [e] <;> rfl
set_option maxHeartbeats 0 in
theorem hrun (w : World) : HandSHeadRun.RunEqS hR hQ hookZ obZ 6000 hnames w := by
  intro os
  kernel_rfl
end Tz
namespace Tz
open PySem PySem.Spec PyProof.Rows L2
theorem fun_of {K : PySem.W.Frag} {x qual : Str} {st : Stmt} {at_ : Str × Option Str} (s : He.SaysE hfa hfn K) (i : Nat) (h : hfn[i]? = some ⟨at_, x, qual, defArgs st, defBody st, defScope st⟩) (k : PySem.W.keepIn K (.ref (He.fAd K at_)) = true) : ∃ fd, Fun K x qual st (He.fAd K at_) fd := by
  obtain ⟨oc, od, osl, kV, doc, pm, an, cdv, ct, l, cc⟩ := s.def_ i h
  exact ⟨_, fun_mk l cc k⟩
def caZ (K : PySem.W.Frag) : CA := ⟨He.ga K "Disk", He.ga K "Party", He.ga K "Service", He.ga K "World", He.ga K "Plan", He.ga K "COUNTS"⟩
section
variable {P : Program} {w : World} {K : PySem.W.Frag} {mg : Str → Option Value} {base h : Heap}
theorem txtZ (X : K.In h) (G : h.Ns mainGlobals mg) (s : He.SaysE hfa hfn K) (t : He.tupB K "COUNTS" hcounts = true) : Txt K mg (caZ K) where
  c_dk := He.cls_ok (s.fact 136 rfl)
  a_dk_forced := He.noat_ok (s.fact 137 rfl)
  a_dk_unforced := He.noat_ok (s.fact 138 rfl)
  c_py := He.cls_ok (s.fact 140 rfl)
  a_py_up := He.noat_ok (s.fact 141 rfl)
  a_py_waiting := He.noat_ok (s.fact 142 rfl)
  a_py_boot := He.noat_ok (s.fact 143 rfl)
  a_py_nonce := He.noat_ok (s.fact 144 rfl)
  a_py_received := He.noat_ok (s.fact 145 rfl)
  c_sv := He.cls_ok (s.fact 147 rfl)
  a_sv_up := He.noat_ok (s.fact 148 rfl)
  a_sv_disk := He.noat_ok (s.fact 149 rfl)
  a_sv_next_stamp := He.noat_ok (s.fact 150 rfl)
  a_sv_outbox := He.noat_ok (s.fact 151 rfl)
  a_sv_life := He.noat_ok (s.fact 152 rfl)
  c_wd := He.cls_ok (s.fact 154 rfl)
  a_wd_reserve := He.noat_ok (s.fact 155 rfl)
  a_wd_service := He.noat_ok (s.fact 156 rfl)
  a_wd_parties := He.noat_ok (s.fact 157 rfl)
  a_wd_network := He.noat_ok (s.fact 158 rfl)
  a_wd_trace := He.noat_ok (s.fact 159 rfl)
  c_pl := He.cls_ok (s.fact 161 rfl)
  a_pl_steps := He.noat_ok (s.fact 162 rfl)
  a_pl_boots := He.noat_ok (s.fact 163 rfl)
  a_pl_next_stamp := He.noat_ok (s.fact 164 rfl)
  a_pl_pending := He.noat_ok (s.fact 165 rfl)
  z_len := He.free_ok X G (s.fact 166 rfl)
  z_min := He.free_ok X G (s.fact 167 rfl)
  z_max := He.free_ok X G (s.fact 168 rfl)
  z_range := He.free_ok X G (s.fact 169 rfl)
  z_list := He.free_ok X G (s.fact 170 rfl)
  z_sorted := He.free_ok X G (s.fact 171 rfl)
  g_REQUEST_changes := He.int_ok X G (s.fact 172 rfl)
  g_CRASH_CLIENT := He.int_ok X G (s.fact 173 rfl)
  g_DELIVER := He.int_ok X G (s.fact 174 rfl)
  g_DROP := He.int_ok X G (s.fact 175 rfl)
  g_RESTART_SERVICE := He.int_ok X G (s.fact 176 rfl)
  g_FORCE := He.int_ok X G (s.fact 177 rfl)
  g_REPEAT := He.int_ok X G (s.fact 178 rfl)
  g_DUPLICATE := He.int_ok X G (s.fact 179 rfl)
  g_CRASH_SERVICE := He.int_ok X G (s.fact 180 rfl)
  g_RESTART_CLIENT := He.int_ok X G (s.fact 181 rfl)
  g_CALM_changes := He.int_ok X G (s.fact 182 rfl)
  g_MOST_ROUNDS_changes := He.int_ok X G (s.fact 183 rfl)
  g_MOST_STEP_NUMBERS := He.int_ok X G (s.fact 184 rfl)
  g_FIRST_STEP := He.int_ok X G (s.fact 185 rfl)
  g_REQUEST_histories := He.int_ok X G (s.fact 186 rfl)
  g_RECEIPT_histories := He.int_ok X G (s.fact 187 rfl)
  g_MOST_CLIENTS_histories := He.int_ok X G (s.fact 188 rfl)
  g_MOST_NUMBER := He.int_ok X G (s.fact 189 rfl)
  g_EVENT := He.int_ok X G (s.fact 190 rfl)
  g_MOST_JUDGED := He.int_ok X G (s.fact 191 rfl)
  g_PAGE := He.int_ok X G (s.fact 192 rfl)
  g_REQUESTED_looks := He.int_ok X G (s.fact 193 rfl)
  g_RECEIVED_looks := He.int_ok X G (s.fact 194 rfl)
  g_SENT_looks := He.int_ok X G (s.fact 195 rfl)
  g_KINDS := He.int_ok X G (s.fact 196 rfl)
  g_CLIENT_PLACES := He.int_ok X G (s.fact 197 rfl)
  g_STEP_CRASH_CLIENT := He.int_ok X G (s.fact 198 rfl)
  g_STEP_RESTART_CLIENT := He.int_ok X G (s.fact 199 rfl)
  g_STEP_REQUEST := He.int_ok X G (s.fact 200 rfl)
  g_STEP_DROP := He.int_ok X G (s.fact 201 rfl)
  g_STEP_REPEAT := He.int_ok X G (s.fact 202 rfl)
  g_STEP_DELIVER := He.int_ok X G (s.fact 203 rfl)
  g_STEP_FORCE := He.int_ok X G (s.fact 204 rfl)
  g_RECEIPT_scheduler := He.int_ok X G (s.fact 205 rfl)
  g_MOST_BOOT := He.int_ok X G (s.fact 206 rfl)
  g_MOST_STAMP := He.int_ok X G (s.fact 207 rfl)
  g_REQUEST_scheduler := He.int_ok X G (s.fact 208 rfl)
  g_MOST_SCHEDULED := He.int_ok X G (s.fact 209 rfl)
  g_WROTE := He.int_ok X G (s.fact 210 rfl)
  g_REPLY := He.int_ok X G (s.fact 211 rfl)
  g_MADE := He.int_ok X G (s.fact 212 rfl)
  g_SENT_service := He.int_ok X G (s.fact 213 rfl)
  g_CRASHED := He.int_ok X G (s.fact 214 rfl)
  g_RESTARTED := He.int_ok X G (s.fact 215 rfl)
  g_REQUEST_simulation := He.int_ok X G (s.fact 216 rfl)
  g_REQUESTED_simulation := He.int_ok X G (s.fact 217 rfl)
  g_RECEIVED_simulation := He.int_ok X G (s.fact 218 rfl)
  g_PLACES := He.int_ok X G (s.fact 219 rfl)
  g_MOST_RESERVE := He.int_ok X G (s.fact 220 rfl)
  g_MOST_CLIENTS_worlds := He.int_ok X G (s.fact 221 rfl)
  g_CALM_worlds := He.int_ok X G (s.fact 222 rfl)
  g_MOST_ROUNDS_worlds := He.int_ok X G (s.fact 223 rfl)
  g_GET_NETWORK := He.int_ok X G (s.fact 224 rfl)
  g_GET_OUTBOX := He.int_ok X G (s.fact 225 rfl)
  g_GET_TRACE := He.int_ok X G (s.fact 226 rfl)
  g_GET_HISTORY := He.int_ok X G (s.fact 227 rfl)
  g_GET_SERVICE := He.int_ok X G (s.fact 228 rfl)
  g_GET_CLIENT := He.int_ok X G (s.fact 229 rfl)
  g_GET_ORDER := He.int_ok X G (s.fact 230 rfl)
  g_GET_STATISTICS := He.int_ok X G (s.fact 231 rfl)
  g_RUN_STEPS := He.int_ok X G (s.fact 232 rfl)
  g_OPEN_WORLD := He.int_ok X G (s.fact 233 rfl)
  g_COPY_WORLD := He.int_ok X G (s.fact 234 rfl)
  g_JUDGE := He.int_ok X G (s.fact 235 rfl)
  g_SCHEDULE := He.int_ok X G (s.fact 236 rfl)
  g_COUNTS := He.glo_ok X G (s.fact 237 rfl)
  t_COUNTS := fun H => He.tupB_ok t H
theorem d_has_client (X : K.In h) (G : h.Ns mainGlobals mg) (s : He.SaysE hfa hfn K) (t : He.tupB K "COUNTS" hcounts = true) : DefOk P w K mg base "has_client" 1 ["world", "client"] (sp_has_client K (caZ K)) := by
  obtain ⟨fd, F⟩ := fun_of s (st := s_has_client) 0 rfl (He.keep_ok (s.fact 1 rfl))
  exact ⟨_, fd, ok_has_client F (txtZ X G s t) , He.glo_ok X G (s.fact 0 rfl), F.kp, F.binds (ps := ["world", "client"]) fun _ _ _ _ _ _ us hl => match us, hl with | [_, _], _ => rfl⟩
theorem d_is_step (X : K.In h) (G : h.Ns mainGlobals mg) (s : He.SaysE hfa hfn K) (t : He.tupB K "COUNTS" hcounts = true) : DefOk P w K mg base "is_step" 1 ["op", "argument"] (sp_is_step K (caZ K)) := by
  obtain ⟨fd, F⟩ := fun_of s (st := s_is_step) 7 rfl (He.keep_ok (s.fact 15 rfl))
  exact ⟨_, fd, ok_is_step F (txtZ X G s t) , He.glo_ok X G (s.fact 14 rfl), F.kp, F.binds (ps := ["op", "argument"]) fun _ _ _ _ _ _ us hl => match us, hl with | [_, _], _ => rfl⟩
theorem d_is_event (X : K.In h) (G : h.Ns mainGlobals mg) (s : He.SaysE hfa hfn K) (t : He.tupB K "COUNTS" hcounts = true) : DefOk P w K mg base "is_event" 1 ["kind", "client", "boot", "nonce", "stamp"] (sp_is_event K (caZ K)) := by
  obtain ⟨fd, F⟩ := fun_of s (st := s_is_event) 10 rfl (He.keep_ok (s.fact 21 rfl))
  exact ⟨_, fd, ok_is_event F (txtZ X G s t) , He.glo_ok X G (s.fact 20 rfl), F.kp, F.binds (ps := ["kind", "client", "boot", "nonce", "stamp"]) fun _ _ _ _ _ _ us hl => match us, hl with | [_, _, _, _, _], _ => rfl⟩
theorem d_events_of (X : K.In h) (G : h.Ns mainGlobals mg) (s : He.SaysE hfa hfn K) (t : He.tupB K "COUNTS" hcounts = true) : DefOk P w K mg base "events_of" 1 ["numbers"] (sp_events_of K (caZ K)) := by
  obtain ⟨fd, F⟩ := fun_of s (st := s_events_of) 12 rfl (He.keep_ok (s.fact 25 rfl))
  exact ⟨_, fd, ok_events_of F (txtZ X G s t) , He.glo_ok X G (s.fact 24 rfl), F.kp, F.binds (ps := ["numbers"]) fun _ _ _ _ _ _ us hl => match us, hl with | [_], _ => rfl⟩
theorem d_last_request (X : K.In h) (G : h.Ns mainGlobals mg) (s : He.SaysE hfa hfn K) (t : He.tupB K "COUNTS" hcounts = true) : DefOk P w K mg base "last_request" 1 ["events", "at", "client"] (sp_last_request K (caZ K)) := by
  obtain ⟨fd, F⟩ := fun_of s (st := s_last_request) 13 rfl (He.keep_ok (s.fact 27 rfl))
  exact ⟨_, fd, ok_last_request F (txtZ X G s t) , He.glo_ok X G (s.fact 26 rfl), F.kp, F.binds (ps := ["events", "at", "client"]) fun _ _ _ _ _ _ us hl => match us, hl with | [_, _, _], _ => rfl⟩
theorem d_is_unanswered (X : K.In h) (G : h.Ns mainGlobals mg) (s : He.SaysE hfa hfn K) (t : He.tupB K "COUNTS" hcounts = true) : DefOk P w K mg base "is_unanswered" 1 ["events", "at", "last"] (sp_is_unanswered K (caZ K)) := by
  obtain ⟨fd, F⟩ := fun_of s (st := s_is_unanswered) 14 rfl (He.keep_ok (s.fact 29 rfl))
  exact ⟨_, fd, ok_is_unanswered F (txtZ X G s t) , He.glo_ok X G (s.fact 28 rfl), F.kp, F.binds (ps := ["events", "at", "last"]) fun _ _ _ _ _ _ us hl => match us, hl with | [_, _, _], _ => rfl⟩
theorem d_was_received (X : K.In h) (G : h.Ns mainGlobals mg) (s : He.SaysE hfa hfn K) (t : He.tupB K "COUNTS" hcounts = true) : DefOk P w K mg base "was_received" 1 ["events", "at", "stamp"] (sp_was_received K (caZ K)) := by
  obtain ⟨fd, F⟩ := fun_of s (st := s_was_received) 15 rfl (He.keep_ok (s.fact 31 rfl))
  exact ⟨_, fd, ok_was_received F (txtZ X G s t) , He.glo_ok X G (s.fact 30 rfl), F.kp, F.binds (ps := ["events", "at", "stamp"]) fun _ _ _ _ _ _ us hl => match us, hl with | [_, _, _], _ => rfl⟩
theorem d_highest_received (X : K.In h) (G : h.Ns mainGlobals mg) (s : He.SaysE hfa hfn K) (t : He.tupB K "COUNTS" hcounts = true) : DefOk P w K mg base "highest_received" 1 ["events", "at"] (sp_highest_received K (caZ K)) := by
  obtain ⟨fd, F⟩ := fun_of s (st := s_highest_received) 16 rfl (He.keep_ok (s.fact 33 rfl))
  exact ⟨_, fd, ok_highest_received F (txtZ X G s t) , He.glo_ok X G (s.fact 32 rfl), F.kp, F.binds (ps := ["events", "at"]) fun _ _ _ _ _ _ us hl => match us, hl with | [_, _], _ => rfl⟩
theorem d_truth (X : K.In h) (G : h.Ns mainGlobals mg) (s : He.SaysE hfa hfn K) (t : He.tupB K "COUNTS" hcounts = true) : DefOk P w K mg base "truth" 1 ["yes"] (sp_truth K (caZ K)) := by
  obtain ⟨fd, F⟩ := fun_of s (st := s_truth) 22 rfl (He.keep_ok (s.fact 45 rfl))
  exact ⟨_, fd, ok_truth F (txtZ X G s t) , He.glo_ok X G (s.fact 44 rfl), F.kp, F.binds (ps := ["yes"]) fun _ _ _ _ _ _ us hl => match us, hl with | [_], _ => rfl⟩
theorem d_page (X : K.In h) (G : h.Ns mainGlobals mg) (s : He.SaysE hfa hfn K) (t : He.tupB K "COUNTS" hcounts = true) : DefOk P w K mg base "page" 1 ["rows", "first"] (sp_page K (caZ K)) := by
  obtain ⟨fd, F⟩ := fun_of s (st := s_page) 23 rfl (He.keep_ok (s.fact 47 rfl))
  exact ⟨_, fd, ok_page F (txtZ X G s t) , He.glo_ok X G (s.fact 46 rfl), F.kp, F.binds (ps := ["rows", "first"]) fun _ _ _ _ _ _ us hl => match us, hl with | [_, _], _ => rfl⟩
theorem d_history (X : K.In h) (G : h.Ns mainGlobals mg) (s : He.SaysE hfa hfn K) (t : He.tupB K "COUNTS" hcounts = true) : DefOk P w K mg base "history" 1 ["world"] (sp_history K (caZ K)) := by
  obtain ⟨fd, F⟩ := fun_of s (st := s_history) 26 rfl (He.keep_ok (s.fact 53 rfl))
  exact ⟨_, fd, ok_history F (txtZ X G s t) , He.glo_ok X G (s.fact 52 rfl), F.kp, F.binds (ps := ["world"]) fun _ _ _ _ _ _ us hl => match us, hl with | [_], _ => rfl⟩
theorem d_order (X : K.In h) (G : h.Ns mainGlobals mg) (s : He.SaysE hfa hfn K) (t : He.tupB K "COUNTS" hcounts = true) : DefOk P w K mg base "order" 1 ["world"] (sp_order K (caZ K)) := by
  obtain ⟨fd, F⟩ := fun_of s (st := s_order) 27 rfl (He.keep_ok (s.fact 55 rfl))
  exact ⟨_, fd, ok_order F (txtZ X G s t) , He.glo_ok X G (s.fact 54 rfl), F.kp, F.binds (ps := ["world"]) fun _ _ _ _ _ _ us hl => match us, hl with | [_], _ => rfl⟩
theorem d_get_statistics (X : K.In h) (G : h.Ns mainGlobals mg) (s : He.SaysE hfa hfn K) (t : He.tupB K "COUNTS" hcounts = true) : DefOk P w K mg base "get_statistics" 1 ["world"] (sp_get_statistics K (caZ K)) := by
  obtain ⟨fd, F⟩ := fun_of s (st := s_get_statistics) 28 rfl (He.keep_ok (s.fact 57 rfl))
  exact ⟨_, fd, ok_get_statistics F (txtZ X G s t) , He.glo_ok X G (s.fact 56 rfl), F.kp, F.binds (ps := ["world"]) fun _ _ _ _ _ _ us hl => match us, hl with | [_], _ => rfl⟩
theorem d_Plan_init (X : K.In h) (G : h.Ns mainGlobals mg) (s : He.SaysE hfa hfn K) (t : He.tupB K "COUNTS" hcounts = true) : MakeOk P w K mg base "Plan" (caZ K).pl 1 ["self"] (sp_Plan_init K (caZ K)) := by
  obtain ⟨fd, F⟩ := fun_of s (st := s_Plan_init) 30 rfl (He.meth_ok (s.fact 61 rfl)).kp
  exact ⟨_, fd, ok_Plan_init F (txtZ X G s t) , He.mkr_ok (s.fact 60 rfl), He.glo_ok X G (s.fact 160 rfl), F.binds (ps := ["self"]) fun _ _ _ _ _ _ us hl => match us, hl with | [_], _ => rfl⟩
theorem d_Plan_step (X : K.In h) (G : h.Ns mainGlobals mg) (s : He.SaysE hfa hfn K) (t : He.tupB K "COUNTS" hcounts = true) : MethOk P w K mg base (caZ K).pl "step" 1 ["self", "code", "argument"] (sp_Plan_step K (caZ K)) := by
  obtain ⟨fd, F⟩ := fun_of s (st := s_Plan_step) 31 rfl (He.meth_ok (s.fact 62 rfl)).kp
  exact ⟨_, fd, ok_Plan_step F (txtZ X G s t) , He.meth_ok (s.fact 62 rfl), F.binds (ps := ["self", "code", "argument"]) fun _ _ _ _ _ _ us hl => match us, hl with | [_, _, _], _ => rfl⟩
theorem d_owner_of (X : K.In h) (G : h.Ns mainGlobals mg) (s : He.SaysE hfa hfn K) (t : He.tupB K "COUNTS" hcounts = true) : DefOk P w K mg base "owner_of" 1 ["events", "stamp"] (sp_owner_of K (caZ K)) := by
  obtain ⟨fd, F⟩ := fun_of s (st := s_owner_of) 38 rfl (He.keep_ok (s.fact 70 rfl))
  exact ⟨_, fd, ok_owner_of F (txtZ X G s t) , He.glo_ok X G (s.fact 69 rfl), F.kp, F.binds (ps := ["events", "stamp"]) fun _ _ _ _ _ _ us hl => match us, hl with | [_, _], _ => rfl⟩
theorem d_is_too_large (X : K.In h) (G : h.Ns mainGlobals mg) (s : He.SaysE hfa hfn K) (t : He.tupB K "COUNTS" hcounts = true) : DefOk P w K mg base "is_too_large" 1 ["events"] (sp_is_too_large K (caZ K)) := by
  obtain ⟨fd, F⟩ := fun_of s (st := s_is_too_large) 39 rfl (He.keep_ok (s.fact 72 rfl))
  exact ⟨_, fd, ok_is_too_large F (txtZ X G s t) , He.glo_ok X G (s.fact 71 rfl), F.kp, F.binds (ps := ["events"]) fun _ _ _ _ _ _ us hl => match us, hl with | [_], _ => rfl⟩
theorem d_Party_init (X : K.In h) (G : h.Ns mainGlobals mg) (s : He.SaysE hfa hfn K) (t : He.tupB K "COUNTS" hcounts = true) : MakeOk P w K mg base "Party" (caZ K).py 1 ["self"] (sp_Party_init K (caZ K)) := by
  obtain ⟨fd, F⟩ := fun_of s (st := s_Party_init) 42 rfl (He.meth_ok (s.fact 78 rfl)).kp
  exact ⟨_, fd, ok_Party_init F (txtZ X G s t) , He.mkr_ok (s.fact 77 rfl), He.glo_ok X G (s.fact 139 rfl), F.binds (ps := ["self"]) fun _ _ _ _ _ _ us hl => match us, hl with | [_], _ => rfl⟩
theorem d_Party_ask (X : K.In h) (G : h.Ns mainGlobals mg) (s : He.SaysE hfa hfn K) (t : He.tupB K "COUNTS" hcounts = true) : MethOk P w K mg base (caZ K).py "ask" 1 ["self"] (sp_Party_ask K (caZ K)) := by
  obtain ⟨fd, F⟩ := fun_of s (st := s_Party_ask) 43 rfl (He.meth_ok (s.fact 79 rfl)).kp
  exact ⟨_, fd, ok_Party_ask F (txtZ X G s t) , He.meth_ok (s.fact 79 rfl), F.binds (ps := ["self"]) fun _ _ _ _ _ _ us hl => match us, hl with | [_], _ => rfl⟩
theorem d_Party_accepts (X : K.In h) (G : h.Ns mainGlobals mg) (s : He.SaysE hfa hfn K) (t : He.tupB K "COUNTS" hcounts = true) : MethOk P w K mg base (caZ K).py "accepts" 1 ["self", "boot", "nonce"] (sp_Party_accepts K (caZ K)) := by
  obtain ⟨fd, F⟩ := fun_of s (st := s_Party_accepts) 44 rfl (He.meth_ok (s.fact 80 rfl)).kp
  exact ⟨_, fd, ok_Party_accepts F (txtZ X G s t) , He.meth_ok (s.fact 80 rfl), F.binds (ps := ["self", "boot", "nonce"]) fun _ _ _ _ _ _ us hl => match us, hl with | [_, _, _], _ => rfl⟩
theorem d_Party_receive (X : K.In h) (G : h.Ns mainGlobals mg) (s : He.SaysE hfa hfn K) (t : He.tupB K "COUNTS" hcounts = true) : MethOk P w K mg base (caZ K).py "receive" 1 ["self", "stamp"] (sp_Party_receive K (caZ K)) := by
  obtain ⟨fd, F⟩ := fun_of s (st := s_Party_receive) 45 rfl (He.meth_ok (s.fact 81 rfl)).kp
  exact ⟨_, fd, ok_Party_receive F (txtZ X G s t) , He.meth_ok (s.fact 81 rfl), F.binds (ps := ["self", "stamp"]) fun _ _ _ _ _ _ us hl => match us, hl with | [_, _], _ => rfl⟩
theorem d_Party_crash (X : K.In h) (G : h.Ns mainGlobals mg) (s : He.SaysE hfa hfn K) (t : He.tupB K "COUNTS" hcounts = true) : MethOk P w K mg base (caZ K).py "crash" 1 ["self"] (sp_Party_crash K (caZ K)) := by
  obtain ⟨fd, F⟩ := fun_of s (st := s_Party_crash) 46 rfl (He.meth_ok (s.fact 82 rfl)).kp
  exact ⟨_, fd, ok_Party_crash F (txtZ X G s t) , He.meth_ok (s.fact 82 rfl), F.binds (ps := ["self"]) fun _ _ _ _ _ _ us hl => match us, hl with | [_], _ => rfl⟩
theorem d_Party_restart (X : K.In h) (G : h.Ns mainGlobals mg) (s : He.SaysE hfa hfn K) (t : He.tupB K "COUNTS" hcounts = true) : MethOk P w K mg base (caZ K).py "restart" 1 ["self"] (sp_Party_restart K (caZ K)) := by
  obtain ⟨fd, F⟩ := fun_of s (st := s_Party_restart) 47 rfl (He.meth_ok (s.fact 83 rfl)).kp
  exact ⟨_, fd, ok_Party_restart F (txtZ X G s t) , He.meth_ok (s.fact 83 rfl), F.binds (ps := ["self"]) fun _ _ _ _ _ _ us hl => match us, hl with | [_], _ => rfl⟩
theorem d_Party_last_received (X : K.In h) (G : h.Ns mainGlobals mg) (s : He.SaysE hfa hfn K) (t : He.tupB K "COUNTS" hcounts = true) : MethOk P w K mg base (caZ K).py "last_received" 1 ["self"] (sp_Party_last_received K (caZ K)) := by
  obtain ⟨fd, F⟩ := fun_of s (st := s_Party_last_received) 48 rfl (He.meth_ok (s.fact 84 rfl)).kp
  exact ⟨_, fd, ok_Party_last_received F (txtZ X G s t) , He.meth_ok (s.fact 84 rfl), F.binds (ps := ["self"]) fun _ _ _ _ _ _ us hl => match us, hl with | [_], _ => rfl⟩
theorem d_Disk_init (X : K.In h) (G : h.Ns mainGlobals mg) (s : He.SaysE hfa hfn K) (t : He.tupB K "COUNTS" hcounts = true) : MakeOk P w K mg base "Disk" (caZ K).dk 1 ["self", "forced", "unforced"] (sp_Disk_init K (caZ K)) := by
  obtain ⟨fd, F⟩ := fun_of s (st := s_Disk_init) 50 rfl (He.meth_ok (s.fact 87 rfl)).kp
  exact ⟨_, fd, ok_Disk_init F (txtZ X G s t) , He.mkr_ok (s.fact 86 rfl), He.glo_ok X G (s.fact 135 rfl), F.binds (ps := ["self", "forced", "unforced"]) fun _ _ _ _ _ _ us hl => match us, hl with | [_, _, _], _ => rfl⟩
theorem d_Disk_current (X : K.In h) (G : h.Ns mainGlobals mg) (s : He.SaysE hfa hfn K) (t : He.tupB K "COUNTS" hcounts = true) : MethOk P w K mg base (caZ K).dk "current" 1 ["self"] (sp_Disk_current K (caZ K)) := by
  obtain ⟨fd, F⟩ := fun_of s (st := s_Disk_current) 51 rfl (He.meth_ok (s.fact 88 rfl)).kp
  exact ⟨_, fd, ok_Disk_current F (txtZ X G s t) , He.meth_ok (s.fact 88 rfl), F.binds (ps := ["self"]) fun _ _ _ _ _ _ us hl => match us, hl with | [_], _ => rfl⟩
theorem d_Disk_write (X : K.In h) (G : h.Ns mainGlobals mg) (s : He.SaysE hfa hfn K) (t : He.tupB K "COUNTS" hcounts = true) : MethOk P w K mg base (caZ K).dk "write" 1 ["self", "limit"] (sp_Disk_write K (caZ K)) := by
  obtain ⟨fd, F⟩ := fun_of s (st := s_Disk_write) 52 rfl (He.meth_ok (s.fact 89 rfl)).kp
  exact ⟨_, fd, ok_Disk_write F (txtZ X G s t) , He.meth_ok (s.fact 89 rfl), F.binds (ps := ["self", "limit"]) fun _ _ _ _ _ _ us hl => match us, hl with | [_, _], _ => rfl⟩
theorem d_Disk_crash (X : K.In h) (G : h.Ns mainGlobals mg) (s : He.SaysE hfa hfn K) (t : He.tupB K "COUNTS" hcounts = true) : MethOk P w K mg base (caZ K).dk "crash" 1 ["self", "kept"] (sp_Disk_crash K (caZ K)) := by
  obtain ⟨fd, F⟩ := fun_of s (st := s_Disk_crash) 54 rfl (He.meth_ok (s.fact 91 rfl)).kp
  exact ⟨_, fd, ok_Disk_crash F (txtZ X G s t) , He.meth_ok (s.fact 91 rfl), F.binds (ps := ["self", "kept"]) fun _ _ _ _ _ _ us hl => match us, hl with | [_, _], _ => rfl⟩
theorem d_Disk_held (X : K.In h) (G : h.Ns mainGlobals mg) (s : He.SaysE hfa hfn K) (t : He.tupB K "COUNTS" hcounts = true) : MethOk P w K mg base (caZ K).dk "held" 1 ["self"] (sp_Disk_held K (caZ K)) := by
  obtain ⟨fd, F⟩ := fun_of s (st := s_Disk_held) 55 rfl (He.meth_ok (s.fact 92 rfl)).kp
  exact ⟨_, fd, ok_Disk_held F (txtZ X G s t) , He.meth_ok (s.fact 92 rfl), F.binds (ps := ["self"]) fun _ _ _ _ _ _ us hl => match us, hl with | [_], _ => rfl⟩
theorem d_World_send_request (X : K.In h) (G : h.Ns mainGlobals mg) (s : He.SaysE hfa hfn K) (t : He.tupB K "COUNTS" hcounts = true) : MethOk P w K mg base (caZ K).wd "send_request" 1 ["self", "client"] (sp_World_send_request K (caZ K)) := by
  obtain ⟨fd, F⟩ := fun_of s (st := s_World_send_request) 65 rfl (He.meth_ok (s.fact 104 rfl)).kp
  exact ⟨_, fd, ok_World_send_request F (txtZ X G s t) , He.meth_ok (s.fact 104 rfl), F.binds (ps := ["self", "client"]) fun _ _ _ _ _ _ us hl => match us, hl with | [_, _], _ => rfl⟩
theorem d_World_take (X : K.In h) (G : h.Ns mainGlobals mg) (s : He.SaysE hfa hfn K) (t : He.tupB K "COUNTS" hcounts = true) : MethOk P w K mg base (caZ K).wd "take" 1 ["self", "index"] (sp_World_take K (caZ K)) := by
  obtain ⟨fd, F⟩ := fun_of s (st := s_World_take) 67 rfl (He.meth_ok (s.fact 106 rfl)).kp
  exact ⟨_, fd, ok_World_take F (txtZ X G s t) , He.meth_ok (s.fact 106 rfl), F.binds (ps := ["self", "index"]) fun _ _ _ _ _ _ us hl => match us, hl with | [_, _], _ => rfl⟩
theorem d_is_place (X : K.In h) (G : h.Ns mainGlobals mg) (s : He.SaysE hfa hfn K) (t : He.tupB K "COUNTS" hcounts = true) : DefOk P w K mg base "is_place" 1 ["number"] (sp_is_place K (caZ K)) := by
  obtain ⟨fd, F⟩ := fun_of s (st := s_is_place) 76 rfl (He.keep_ok (s.fact 116 rfl))
  exact ⟨_, fd, ok_is_place F (txtZ X G s t) , He.glo_ok X G (s.fact 115 rfl), F.kp, F.binds (ps := ["number"]) fun _ _ _ _ _ _ us hl => match us, hl with | [_], _ => rfl⟩
theorem d_is_second_out (X : K.In h) (G : h.Ns mainGlobals mg) (s : He.SaysE hfa hfn K) (t : He.tupB K "COUNTS" hcounts = true) : DefOk P w K mg base "is_second_out" 1 ["op", "second"] (sp_is_second_out K (caZ K)) := by
  obtain ⟨fd, F⟩ := fun_of s (st := s_is_second_out) 79 rfl (He.keep_ok (s.fact 122 rfl))
  exact ⟨_, fd, ok_is_second_out F (txtZ X G s t) , He.glo_ok X G (s.fact 121 rfl), F.kp, F.binds (ps := ["op", "second"]) fun _ _ _ _ _ _ us hl => match us, hl with | [_, _], _ => rfl⟩
theorem d_has_row (X : K.In h) (G : h.Ns mainGlobals mg) (s : He.SaysE hfa hfn K) (t : He.tupB K "COUNTS" hcounts = true) : DefOk P w K mg base "has_row" 1 ["op"] (sp_has_row K (caZ K)) := by
  obtain ⟨fd, F⟩ := fun_of s (st := s_has_row) 84 rfl (He.keep_ok (s.fact 132 rfl))
  exact ⟨_, fd, ok_has_row F (txtZ X G s t) , He.glo_ok X G (s.fact 131 rfl), F.kp, F.binds (ps := ["op"]) fun _ _ _ _ _ _ us hl => match us, hl with | [_], _ => rfl⟩
theorem d_turn_client (X : K.In h) (G : h.Ns mainGlobals mg) (s : He.SaysE hfa hfn K) (t : He.tupB K "COUNTS" hcounts = true) : DefOk P w K mg base "turn_client" 2 ["world", "op", "client"] (sp_turn_client K (caZ K)) := by
  obtain ⟨fd, F⟩ := fun_of s (st := s_turn_client) 2 rfl (He.keep_ok (s.fact 5 rfl))
  exact ⟨_, fd, ok_turn_client F (txtZ X G s t) (d_Party_restart X G s t) (d_Party_crash X G s t) (d_has_client X G s t), He.glo_ok X G (s.fact 4 rfl), F.kp, F.binds (ps := ["world", "op", "client"]) fun _ _ _ _ _ _ us hl => match us, hl with | [_, _, _], _ => rfl⟩
theorem d_is_step_list (X : K.In h) (G : h.Ns mainGlobals mg) (s : He.SaysE hfa hfn K) (t : He.tupB K "COUNTS" hcounts = true) : DefOk P w K mg base "is_step_list" 2 ["steps"] (sp_is_step_list K (caZ K)) := by
  obtain ⟨fd, F⟩ := fun_of s (st := s_is_step_list) 8 rfl (He.keep_ok (s.fact 17 rfl))
  exact ⟨_, fd, ok_is_step_list F (txtZ X G s t) (d_is_step X G s t), He.glo_ok X G (s.fact 16 rfl), F.kp, F.binds (ps := ["steps"]) fun _ _ _ _ _ _ us hl => match us, hl with | [_], _ => rfl⟩
theorem d_is_event_list (X : K.In h) (G : h.Ns mainGlobals mg) (s : He.SaysE hfa hfn K) (t : He.tupB K "COUNTS" hcounts = true) : DefOk P w K mg base "is_event_list" 2 ["numbers"] (sp_is_event_list K (caZ K)) := by
  obtain ⟨fd, F⟩ := fun_of s (st := s_is_event_list) 11 rfl (He.keep_ok (s.fact 23 rfl))
  exact ⟨_, fd, ok_is_event_list F (txtZ X G s t) (d_is_event X G s t), He.glo_ok X G (s.fact 22 rfl), F.kp, F.binds (ps := ["numbers"]) fun _ _ _ _ _ _ us hl => match us, hl with | [_], _ => rfl⟩
theorem d_is_right_request (X : K.In h) (G : h.Ns mainGlobals mg) (s : He.SaysE hfa hfn K) (t : He.tupB K "COUNTS" hcounts = true) : DefOk P w K mg base "is_right_request" 2 ["events", "at"] (sp_is_right_request K (caZ K)) := by
  obtain ⟨fd, F⟩ := fun_of s (st := s_is_right_request) 17 rfl (He.keep_ok (s.fact 35 rfl))
  exact ⟨_, fd, ok_is_right_request F (txtZ X G s t) (d_is_unanswered X G s t) (d_last_request X G s t), He.glo_ok X G (s.fact 34 rfl), F.kp, F.binds (ps := ["events", "at"]) fun _ _ _ _ _ _ us hl => match us, hl with | [_, _], _ => rfl⟩
theorem d_fault_of_receipt (X : K.In h) (G : h.Ns mainGlobals mg) (s : He.SaysE hfa hfn K) (t : He.tupB K "COUNTS" hcounts = true) : DefOk P w K mg base "fault_of_receipt" 2 ["events", "at"] (sp_fault_of_receipt K (caZ K)) := by
  obtain ⟨fd, F⟩ := fun_of s (st := s_fault_of_receipt) 18 rfl (He.keep_ok (s.fact 37 rfl))
  exact ⟨_, fd, ok_fault_of_receipt F (txtZ X G s t) (d_highest_received X G s t) (d_was_received X G s t) (d_is_unanswered X G s t) (d_last_request X G s t), He.glo_ok X G (s.fact 36 rfl), F.kp, F.binds (ps := ["events", "at"]) fun _ _ _ _ _ _ us hl => match us, hl with | [_, _], _ => rfl⟩
theorem d_get_service (X : K.In h) (G : h.Ns mainGlobals mg) (s : He.SaysE hfa hfn K) (t : He.tupB K "COUNTS" hcounts = true) : DefOk P w K mg base "get_service" 2 ["world"] (sp_get_service K (caZ K)) := by
  obtain ⟨fd, F⟩ := fun_of s (st := s_get_service) 24 rfl (He.keep_ok (s.fact 49 rfl))
  exact ⟨_, fd, ok_get_service F (txtZ X G s t) (d_Disk_current X G s t) (d_truth X G s t), He.glo_ok X G (s.fact 48 rfl), F.kp, F.binds (ps := ["world"]) fun _ _ _ _ _ _ us hl => match us, hl with | [_], _ => rfl⟩
theorem d_get_client (X : K.In h) (G : h.Ns mainGlobals mg) (s : He.SaysE hfa hfn K) (t : He.tupB K "COUNTS" hcounts = true) : DefOk P w K mg base "get_client" 2 ["world", "client"] (sp_get_client K (caZ K)) := by
  obtain ⟨fd, F⟩ := fun_of s (st := s_get_client) 25 rfl (He.keep_ok (s.fact 51 rfl))
  exact ⟨_, fd, ok_get_client F (txtZ X G s t) (d_Party_last_received X G s t) (d_truth X G s t), He.glo_ok X G (s.fact 50 rfl), F.kp, F.binds (ps := ["world", "client"]) fun _ _ _ _ _ _ us hl => match us, hl with | [_, _], _ => rfl⟩
theorem d_get_restart_values (X : K.In h) (G : h.Ns mainGlobals mg) (s : He.SaysE hfa hfn K) (t : He.tupB K "COUNTS" hcounts = true) : DefOk P w K mg base "get_restart_values" 2 ["world"] (sp_get_restart_values K (caZ K)) := by
  obtain ⟨fd, F⟩ := fun_of s (st := s_get_restart_values) 29 rfl (He.keep_ok (s.fact 59 rfl))
  exact ⟨_, fd, ok_get_restart_values F (txtZ X G s t) (d_Disk_held X G s t), He.glo_ok X G (s.fact 58 rfl), F.kp, F.binds (ps := ["world"]) fun _ _ _ _ _ _ us hl => match us, hl with | [_], _ => rfl⟩
theorem d_Plan_boot_up (X : K.In h) (G : h.Ns mainGlobals mg) (s : He.SaysE hfa hfn K) (t : He.tupB K "COUNTS" hcounts = true) : MethOk P w K mg base (caZ K).pl "boot_up" 2 ["self", "client", "boot"] (sp_Plan_boot_up K (caZ K)) := by
  obtain ⟨fd, F⟩ := fun_of s (st := s_Plan_boot_up) 32 rfl (He.meth_ok (s.fact 63 rfl)).kp
  exact ⟨_, fd, ok_Plan_boot_up F (txtZ X G s t) (d_Plan_step X G s t), He.meth_ok (s.fact 63 rfl), F.binds (ps := ["self", "client", "boot"]) fun _ _ _ _ _ _ us hl => match us, hl with | [_, _, _], _ => rfl⟩
theorem d_Plan_make_stamp (X : K.In h) (G : h.Ns mainGlobals mg) (s : He.SaysE hfa hfn K) (t : He.tupB K "COUNTS" hcounts = true) : MethOk P w K mg base (caZ K).pl "make_stamp" 2 ["self", "client"] (sp_Plan_make_stamp K (caZ K)) := by
  obtain ⟨fd, F⟩ := fun_of s (st := s_Plan_make_stamp) 34 rfl (He.meth_ok (s.fact 65 rfl)).kp
  exact ⟨_, fd, ok_Plan_make_stamp F (txtZ X G s t) (d_Plan_step X G s t), He.meth_ok (s.fact 65 rfl), F.binds (ps := ["self", "client"]) fun _ _ _ _ _ _ us hl => match us, hl with | [_, _], _ => rfl⟩
theorem d_Plan_plan_pending (X : K.In h) (G : h.Ns mainGlobals mg) (s : He.SaysE hfa hfn K) (t : He.tupB K "COUNTS" hcounts = true) : MethOk P w K mg base (caZ K).pl "plan_pending" 2 ["self", "stamp"] (sp_Plan_plan_pending K (caZ K)) := by
  obtain ⟨fd, F⟩ := fun_of s (st := s_Plan_plan_pending) 35 rfl (He.meth_ok (s.fact 66 rfl)).kp
  exact ⟨_, fd, ok_Plan_plan_pending F (txtZ X G s t) (d_Plan_step X G s t), He.meth_ok (s.fact 66 rfl), F.binds (ps := ["self", "stamp"]) fun _ _ _ _ _ _ us hl => match us, hl with | [_, _], _ => rfl⟩
theorem d_Disk_force (X : K.In h) (G : h.Ns mainGlobals mg) (s : He.SaysE hfa hfn K) (t : He.tupB K "COUNTS" hcounts = true) : MethOk P w K mg base (caZ K).dk "force" 2 ["self"] (sp_Disk_force K (caZ K)) := by
  obtain ⟨fd, F⟩ := fun_of s (st := s_Disk_force) 53 rfl (He.meth_ok (s.fact 90 rfl)).kp
  exact ⟨_, fd, ok_Disk_force F (txtZ X G s t) (d_Disk_current X G s t), He.meth_ok (s.fact 90 rfl), F.binds (ps := ["self"]) fun _ _ _ _ _ _ us hl => match us, hl with | [_], _ => rfl⟩
theorem d_Service_write_if_needed (X : K.In h) (G : h.Ns mainGlobals mg) (s : He.SaysE hfa hfn K) (t : He.tupB K "COUNTS" hcounts = true) : MethOk P w K mg base (caZ K).sv "write_if_needed" 2 ["self", "reserve"] (sp_Service_write_if_needed K (caZ K)) := by
  obtain ⟨fd, F⟩ := fun_of s (st := s_Service_write_if_needed) 58 rfl (He.meth_ok (s.fact 96 rfl)).kp
  exact ⟨_, fd, ok_Service_write_if_needed F (txtZ X G s t) (d_Disk_write X G s t) (d_Disk_current X G s t), He.meth_ok (s.fact 96 rfl), F.binds (ps := ["self", "reserve"]) fun _ _ _ _ _ _ us hl => match us, hl with | [_, _], _ => rfl⟩
theorem d_Service_crash (X : K.In h) (G : h.Ns mainGlobals mg) (s : He.SaysE hfa hfn K) (t : He.tupB K "COUNTS" hcounts = true) : MethOk P w K mg base (caZ K).sv "crash" 2 ["self", "kept"] (sp_Service_crash K (caZ K)) := by
  obtain ⟨fd, F⟩ := fun_of s (st := s_Service_crash) 61 rfl (He.meth_ok (s.fact 99 rfl)).kp
  exact ⟨_, fd, ok_Service_crash F (txtZ X G s t) (d_Disk_current X G s t) (d_Disk_crash X G s t), He.meth_ok (s.fact 99 rfl), F.binds (ps := ["self", "kept"]) fun _ _ _ _ _ _ us hl => match us, hl with | [_, _], _ => rfl⟩
theorem d_Service_restart (X : K.In h) (G : h.Ns mainGlobals mg) (s : He.SaysE hfa hfn K) (t : He.tupB K "COUNTS" hcounts = true) : MethOk P w K mg base (caZ K).sv "restart" 2 ["self"] (sp_Service_restart K (caZ K)) := by
  obtain ⟨fd, F⟩ := fun_of s (st := s_Service_restart) 62 rfl (He.meth_ok (s.fact 100 rfl)).kp
  exact ⟨_, fd, ok_Service_restart F (txtZ X G s t) (d_Disk_current X G s t), He.meth_ok (s.fact 100 rfl), F.binds (ps := ["self"]) fun _ _ _ _ _ _ us hl => match us, hl with | [_], _ => rfl⟩
theorem d_World_make_request (X : K.In h) (G : h.Ns mainGlobals mg) (s : He.SaysE hfa hfn K) (t : He.tupB K "COUNTS" hcounts = true) : MethOk P w K mg base (caZ K).wd "make_request" 2 ["self", "client"] (sp_World_make_request K (caZ K)) := by
  obtain ⟨fd, F⟩ := fun_of s (st := s_World_make_request) 66 rfl (He.meth_ok (s.fact 105 rfl)).kp
  exact ⟨_, fd, ok_World_make_request F (txtZ X G s t) (d_World_send_request X G s t) (d_Party_ask X G s t), He.meth_ok (s.fact 105 rfl), F.binds (ps := ["self", "client"]) fun _ _ _ _ _ _ us hl => match us, hl with | [_, _], _ => rfl⟩
theorem d_World_arrive_reply (X : K.In h) (G : h.Ns mainGlobals mg) (s : He.SaysE hfa hfn K) (t : He.tupB K "COUNTS" hcounts = true) : MethOk P w K mg base (caZ K).wd "arrive_reply" 2 ["self", "message"] (sp_World_arrive_reply K (caZ K)) := by
  obtain ⟨fd, F⟩ := fun_of s (st := s_World_arrive_reply) 70 rfl (He.meth_ok (s.fact 109 rfl)).kp
  exact ⟨_, fd, ok_World_arrive_reply F (txtZ X G s t) (d_Party_receive X G s t) (d_Party_accepts X G s t), He.meth_ok (s.fact 109 rfl), F.binds (ps := ["self", "message"]) fun _ _ _ _ _ _ us hl => match us, hl with | [_, _], _ => rfl⟩
theorem d_rows_of (X : K.In h) (G : h.Ns mainGlobals mg) (s : He.SaysE hfa hfn K) (t : He.tupB K "COUNTS" hcounts = true) : DefOk P w K mg base "rows_of" 2 ["world", "op"] (sp_rows_of K (caZ K)) := by
  obtain ⟨fd, F⟩ := fun_of s (st := s_rows_of) 80 rfl (He.keep_ok (s.fact 124 rfl))
  exact ⟨_, fd, ok_rows_of F (txtZ X G s t) (d_order X G s t) (d_history X G s t), He.glo_ok X G (s.fact 123 rfl), F.kp, F.binds (ps := ["world", "op"]) fun _ _ _ _ _ _ us hl => match us, hl with | [_, _], _ => rfl⟩
theorem d_ask (X : K.In h) (G : h.Ns mainGlobals mg) (s : He.SaysE hfa hfn K) (t : He.tupB K "COUNTS" hcounts = true) : DefOk P w K mg base "ask" 3 ["world", "op", "client"] (sp_ask K (caZ K)) := by
  obtain ⟨fd, F⟩ := fun_of s (st := s_ask) 1 rfl (He.keep_ok (s.fact 3 rfl))
  exact ⟨_, fd, ok_ask F (txtZ X G s t) (d_World_send_request X G s t) (d_World_make_request X G s t) (d_has_client X G s t), He.glo_ok X G (s.fact 2 rfl), F.kp, F.binds (ps := ["world", "op", "client"]) fun _ _ _ _ _ _ us hl => match us, hl with | [_, _, _], _ => rfl⟩
theorem d_fault_of (X : K.In h) (G : h.Ns mainGlobals mg) (s : He.SaysE hfa hfn K) (t : He.tupB K "COUNTS" hcounts = true) : DefOk P w K mg base "fault_of" 3 ["events", "at"] (sp_fault_of K (caZ K)) := by
  obtain ⟨fd, F⟩ := fun_of s (st := s_fault_of) 19 rfl (He.keep_ok (s.fact 39 rfl))
  exact ⟨_, fd, ok_fault_of F (txtZ X G s t) (d_is_right_request X G s t) (d_fault_of_receipt X G s t), He.glo_ok X G (s.fact 38 rfl), F.kp, F.binds (ps := ["events", "at"]) fun _ _ _ _ _ _ us hl => match us, hl with | [_, _], _ => rfl⟩
theorem d_Plan_plan_request (X : K.In h) (G : h.Ns mainGlobals mg) (s : He.SaysE hfa hfn K) (t : He.tupB K "COUNTS" hcounts = true) : MethOk P w K mg base (caZ K).pl "plan_request" 3 ["self", "client", "boot"] (sp_Plan_plan_request K (caZ K)) := by
  obtain ⟨fd, F⟩ := fun_of s (st := s_Plan_plan_request) 33 rfl (He.meth_ok (s.fact 64 rfl)).kp
  exact ⟨_, fd, ok_Plan_plan_request F (txtZ X G s t) (d_Plan_step X G s t) (d_Plan_boot_up X G s t), He.meth_ok (s.fact 64 rfl), F.binds (ps := ["self", "client", "boot"]) fun _ _ _ _ _ _ us hl => match us, hl with | [_, _, _], _ => rfl⟩
theorem d_Plan_pass_stamp (X : K.In h) (G : h.Ns mainGlobals mg) (s : He.SaysE hfa hfn K) (t : He.tupB K "COUNTS" hcounts = true) : MethOk P w K mg base (caZ K).pl "pass_stamp" 3 ["self", "stamp", "owner", "client"] (sp_Plan_pass_stamp K (caZ K)) := by
  obtain ⟨fd, F⟩ := fun_of s (st := s_Plan_pass_stamp) 36 rfl (He.meth_ok (s.fact 67 rfl)).kp
  exact ⟨_, fd, ok_Plan_pass_stamp F (txtZ X G s t) (d_Plan_make_stamp X G s t) (d_Plan_step X G s t), He.meth_ok (s.fact 67 rfl), F.binds (ps := ["self", "stamp", "owner", "client"]) fun _ _ _ _ _ _ us hl => match us, hl with | [_, _, _, _], _ => rfl⟩
theorem d_Party_twin (X : K.In h) (G : h.Ns mainGlobals mg) (s : He.SaysE hfa hfn K) (t : He.tupB K "COUNTS" hcounts = true) : MethOk P w K mg base (caZ K).py "twin" 3 ["self"] (sp_Party_twin K (caZ K)) := by
  obtain ⟨fd, F⟩ := fun_of s (st := s_Party_twin) 49 rfl (He.meth_ok (s.fact 85 rfl)).kp
  exact ⟨_, fd, ok_Party_twin F (txtZ X G s t) (d_Party_init X G s t), He.meth_ok (s.fact 85 rfl), F.binds (ps := ["self"]) fun _ _ _ _ _ _ us hl => match us, hl with | [_], _ => rfl⟩
theorem d_Disk_twin (X : K.In h) (G : h.Ns mainGlobals mg) (s : He.SaysE hfa hfn K) (t : He.tupB K "COUNTS" hcounts = true) : MethOk P w K mg base (caZ K).dk "twin" 3 ["self"] (sp_Disk_twin K (caZ K)) := by
  obtain ⟨fd, F⟩ := fun_of s (st := s_Disk_twin) 56 rfl (He.meth_ok (s.fact 93 rfl)).kp
  exact ⟨_, fd, ok_Disk_twin F (txtZ X G s t) (d_Disk_init X G s t), He.meth_ok (s.fact 93 rfl), F.binds (ps := ["self"]) fun _ _ _ _ _ _ us hl => match us, hl with | [_], _ => rfl⟩
theorem d_Service_init (X : K.In h) (G : h.Ns mainGlobals mg) (s : He.SaysE hfa hfn K) (t : He.tupB K "COUNTS" hcounts = true) : MakeOk P w K mg base "Service" (caZ K).sv 3 ["self"] (sp_Service_init K (caZ K)) := by
  obtain ⟨fd, F⟩ := fun_of s (st := s_Service_init) 57 rfl (He.meth_ok (s.fact 95 rfl)).kp
  exact ⟨_, fd, ok_Service_init F (txtZ X G s t) (d_Disk_init X G s t), He.mkr_ok (s.fact 94 rfl), He.glo_ok X G (s.fact 146 rfl), F.binds (ps := ["self"]) fun _ _ _ _ _ _ us hl => match us, hl with | [_], _ => rfl⟩
theorem d_Service_serve (X : K.In h) (G : h.Ns mainGlobals mg) (s : He.SaysE hfa hfn K) (t : He.tupB K "COUNTS" hcounts = true) : MethOk P w K mg base (caZ K).sv "serve" 3 ["self", "message", "reserve"] (sp_Service_serve K (caZ K)) := by
  obtain ⟨fd, F⟩ := fun_of s (st := s_Service_serve) 59 rfl (He.meth_ok (s.fact 97 rfl)).kp
  exact ⟨_, fd, ok_Service_serve F (txtZ X G s t) (d_Service_write_if_needed X G s t), He.meth_ok (s.fact 97 rfl), F.binds (ps := ["self", "message", "reserve"]) fun _ _ _ _ _ _ us hl => match us, hl with | [_, _, _], _ => rfl⟩
theorem d_Service_force (X : K.In h) (G : h.Ns mainGlobals mg) (s : He.SaysE hfa hfn K) (t : He.tupB K "COUNTS" hcounts = true) : MethOk P w K mg base (caZ K).sv "force" 3 ["self"] (sp_Service_force K (caZ K)) := by
  obtain ⟨fd, F⟩ := fun_of s (st := s_Service_force) 60 rfl (He.meth_ok (s.fact 98 rfl)).kp
  exact ⟨_, fd, ok_Service_force F (txtZ X G s t) (d_Disk_force X G s t), He.meth_ok (s.fact 98 rfl), F.binds (ps := ["self"]) fun _ _ _ _ _ _ us hl => match us, hl with | [_], _ => rfl⟩
theorem d_World_crash_service (X : K.In h) (G : h.Ns mainGlobals mg) (s : He.SaysE hfa hfn K) (t : He.tupB K "COUNTS" hcounts = true) : MethOk P w K mg base (caZ K).wd "crash_service" 3 ["self", "kept"] (sp_World_crash_service K (caZ K)) := by
  obtain ⟨fd, F⟩ := fun_of s (st := s_World_crash_service) 72 rfl (He.meth_ok (s.fact 111 rfl)).kp
  exact ⟨_, fd, ok_World_crash_service F (txtZ X G s t) (d_Disk_current X G s t) (d_Service_crash X G s t), He.meth_ok (s.fact 111 rfl), F.binds (ps := ["self", "kept"]) fun _ _ _ _ _ _ us hl => match us, hl with | [_, _], _ => rfl⟩
theorem d_World_restart_service (X : K.In h) (G : h.Ns mainGlobals mg) (s : He.SaysE hfa hfn K) (t : He.tupB K "COUNTS" hcounts = true) : MethOk P w K mg base (caZ K).wd "restart_service" 3 ["self"] (sp_World_restart_service K (caZ K)) := by
  obtain ⟨fd, F⟩ := fun_of s (st := s_World_restart_service) 73 rfl (He.meth_ok (s.fact 112 rfl)).kp
  exact ⟨_, fd, ok_World_restart_service F (txtZ X G s t) (d_Service_restart X G s t), He.meth_ok (s.fact 112 rfl), F.binds (ps := ["self"]) fun _ _ _ _ _ _ us hl => match us, hl with | [_], _ => rfl⟩
theorem d_look (X : K.In h) (G : h.Ns mainGlobals mg) (s : He.SaysE hfa hfn K) (t : He.tupB K "COUNTS" hcounts = true) : DefOk P w K mg base "look" 3 ["world", "op", "second"] (sp_look K (caZ K)) := by
  obtain ⟨fd, F⟩ := fun_of s (st := s_look) 81 rfl (He.keep_ok (s.fact 126 rfl))
  exact ⟨_, fd, ok_look F (txtZ X G s t) (d_get_restart_values X G s t) (d_get_statistics X G s t) (d_page X G s t) (d_rows_of X G s t) (d_get_client X G s t) (d_get_service X G s t), He.glo_ok X G (s.fact 125 rfl), F.kp, F.binds (ps := ["world", "op", "second"]) fun _ _ _ _ _ _ us hl => match us, hl with | [_, _, _], _ => rfl⟩
theorem d_verdict (X : K.In h) (G : h.Ns mainGlobals mg) (s : He.SaysE hfa hfn K) (t : He.tupB K "COUNTS" hcounts = true) : DefOk P w K mg base "verdict" 4 ["events"] (sp_verdict K (caZ K)) := by
  obtain ⟨fd, F⟩ := fun_of s (st := s_verdict) 20 rfl (He.keep_ok (s.fact 41 rfl))
  exact ⟨_, fd, ok_verdict F (txtZ X G s t) (d_fault_of X G s t), He.glo_ok X G (s.fact 40 rfl), F.kp, F.binds (ps := ["events"]) fun _ _ _ _ _ _ us hl => match us, hl with | [_], _ => rfl⟩
theorem d_Plan_plan_new (X : K.In h) (G : h.Ns mainGlobals mg) (s : He.SaysE hfa hfn K) (t : He.tupB K "COUNTS" hcounts = true) : MethOk P w K mg base (caZ K).pl "plan_new" 4 ["self", "events", "client", "stamp"] (sp_Plan_plan_new K (caZ K)) := by
  obtain ⟨fd, F⟩ := fun_of s (st := s_Plan_plan_new) 37 rfl (He.meth_ok (s.fact 68 rfl)).kp
  exact ⟨_, fd, ok_Plan_plan_new F (txtZ X G s t) (d_Plan_step X G s t) (d_Plan_make_stamp X G s t) (d_Plan_pass_stamp X G s t) (d_owner_of X G s t), He.meth_ok (s.fact 68 rfl), F.binds (ps := ["self", "events", "client", "stamp"]) fun _ _ _ _ _ _ us hl => match us, hl with | [_, _, _, _], _ => rfl⟩
theorem d_World_arrive_request (X : K.In h) (G : h.Ns mainGlobals mg) (s : He.SaysE hfa hfn K) (t : He.tupB K "COUNTS" hcounts = true) : MethOk P w K mg base (caZ K).wd "arrive_request" 4 ["self", "message"] (sp_World_arrive_request K (caZ K)) := by
  obtain ⟨fd, F⟩ := fun_of s (st := s_World_arrive_request) 69 rfl (He.meth_ok (s.fact 108 rfl)).kp
  exact ⟨_, fd, ok_World_arrive_request F (txtZ X G s t) (d_Service_serve X G s t), He.meth_ok (s.fact 108 rfl), F.binds (ps := ["self", "message"]) fun _ _ _ _ _ _ us hl => match us, hl with | [_, _], _ => rfl⟩
theorem d_World_force (X : K.In h) (G : h.Ns mainGlobals mg) (s : He.SaysE hfa hfn K) (t : He.tupB K "COUNTS" hcounts = true) : MethOk P w K mg base (caZ K).wd "force" 4 ["self"] (sp_World_force K (caZ K)) := by
  obtain ⟨fd, F⟩ := fun_of s (st := s_World_force) 71 rfl (He.meth_ok (s.fact 110 rfl)).kp
  exact ⟨_, fd, ok_World_force F (txtZ X G s t) (d_Service_force X G s t), He.meth_ok (s.fact 110 rfl), F.binds (ps := ["self"]) fun _ _ _ _ _ _ us hl => match us, hl with | [_], _ => rfl⟩
theorem d_turn_service (X : K.In h) (G : h.Ns mainGlobals mg) (s : He.SaysE hfa hfn K) (t : He.tupB K "COUNTS" hcounts = true) : DefOk P w K mg base "turn_service" 5 ["world", "op", "kept"] (sp_turn_service K (caZ K)) := by
  obtain ⟨fd, F⟩ := fun_of s (st := s_turn_service) 4 rfl (He.keep_ok (s.fact 9 rfl))
  exact ⟨_, fd, ok_turn_service F (txtZ X G s t) (d_World_crash_service X G s t) (d_World_force X G s t) (d_World_restart_service X G s t), He.glo_ok X G (s.fact 8 rfl), F.kp, F.binds (ps := ["world", "op", "kept"]) fun _ _ _ _ _ _ us hl => match us, hl with | [_, _, _], _ => rfl⟩
theorem d_judge (X : K.In h) (G : h.Ns mainGlobals mg) (s : He.SaysE hfa hfn K) (t : He.tupB K "COUNTS" hcounts = true) : DefOk P w K mg base "judge" 5 ["numbers"] (sp_judge K (caZ K)) := by
  obtain ⟨fd, F⟩ := fun_of s (st := s_judge) 21 rfl (He.keep_ok (s.fact 43 rfl))
  exact ⟨_, fd, ok_judge F (txtZ X G s t) (d_verdict X G s t) (d_events_of X G s t) (d_is_event_list X G s t), He.glo_ok X G (s.fact 42 rfl), F.kp, F.binds (ps := ["numbers"]) fun _ _ _ _ _ _ us hl => match us, hl with | [_], _ => rfl⟩
theorem d_planned (X : K.In h) (G : h.Ns mainGlobals mg) (s : He.SaysE hfa hfn K) (t : He.tupB K "COUNTS" hcounts = true) : DefOk P w K mg base "planned" 5 ["events"] (sp_planned K (caZ K)) := by
  obtain ⟨fd, F⟩ := fun_of s (st := s_planned) 40 rfl (He.keep_ok (s.fact 74 rfl))
  exact ⟨_, fd, ok_planned F (txtZ X G s t) (d_Plan_plan_request X G s t) (d_Plan_plan_pending X G s t) (d_Plan_plan_new X G s t) (d_Plan_init X G s t), He.glo_ok X G (s.fact 73 rfl), F.kp, F.binds (ps := ["events"]) fun _ _ _ _ _ _ us hl => match us, hl with | [_], _ => rfl⟩
theorem d_Service_twin (X : K.In h) (G : h.Ns mainGlobals mg) (s : He.SaysE hfa hfn K) (t : He.tupB K "COUNTS" hcounts = true) : MethOk P w K mg base (caZ K).sv "twin" 5 ["self"] (sp_Service_twin K (caZ K)) := by
  obtain ⟨fd, F⟩ := fun_of s (st := s_Service_twin) 63 rfl (He.meth_ok (s.fact 101 rfl)).kp
  exact ⟨_, fd, ok_Service_twin F (txtZ X G s t) (d_Disk_twin X G s t) (d_Service_init X G s t), He.meth_ok (s.fact 101 rfl), F.binds (ps := ["self"]) fun _ _ _ _ _ _ us hl => match us, hl with | [_], _ => rfl⟩
theorem d_World_init (X : K.In h) (G : h.Ns mainGlobals mg) (s : He.SaysE hfa hfn K) (t : He.tupB K "COUNTS" hcounts = true) : MakeOk P w K mg base "World" (caZ K).wd 5 ["self", "reserve", "many"] (sp_World_init K (caZ K)) := by
  obtain ⟨fd, F⟩ := fun_of s (st := s_World_init) 64 rfl (He.meth_ok (s.fact 103 rfl)).kp
  exact ⟨_, fd, ok_World_init F (txtZ X G s t) (d_Party_init X G s t) (d_Service_init X G s t), He.mkr_ok (s.fact 102 rfl), He.glo_ok X G (s.fact 153 rfl), F.binds (ps := ["self", "reserve", "many"]) fun _ _ _ _ _ _ us hl => match us, hl with | [_, _, _], _ => rfl⟩
theorem d_World_arrive (X : K.In h) (G : h.Ns mainGlobals mg) (s : He.SaysE hfa hfn K) (t : He.tupB K "COUNTS" hcounts = true) : MethOk P w K mg base (caZ K).wd "arrive" 5 ["self", "message"] (sp_World_arrive K (caZ K)) := by
  obtain ⟨fd, F⟩ := fun_of s (st := s_World_arrive) 68 rfl (He.meth_ok (s.fact 107 rfl)).kp
  exact ⟨_, fd, ok_World_arrive F (txtZ X G s t) (d_World_arrive_reply X G s t) (d_World_arrive_request X G s t), He.meth_ok (s.fact 107 rfl), F.binds (ps := ["self", "message"]) fun _ _ _ _ _ _ us hl => match us, hl with | [_, _], _ => rfl⟩
theorem d_move_message (X : K.In h) (G : h.Ns mainGlobals mg) (s : He.SaysE hfa hfn K) (t : He.tupB K "COUNTS" hcounts = true) : DefOk P w K mg base "move_message" 6 ["world", "op", "index"] (sp_move_message K (caZ K)) := by
  obtain ⟨fd, F⟩ := fun_of s (st := s_move_message) 3 rfl (He.keep_ok (s.fact 7 rfl))
  exact ⟨_, fd, ok_move_message F (txtZ X G s t) (d_World_take X G s t) (d_World_arrive X G s t), He.glo_ok X G (s.fact 6 rfl), F.kp, F.binds (ps := ["world", "op", "index"]) fun _ _ _ _ _ _ us hl => match us, hl with | [_, _, _], _ => rfl⟩
theorem d_schedule (X : K.In h) (G : h.Ns mainGlobals mg) (s : He.SaysE hfa hfn K) (t : He.tupB K "COUNTS" hcounts = true) : DefOk P w K mg base "schedule" 6 ["numbers"] (sp_schedule K (caZ K)) := by
  obtain ⟨fd, F⟩ := fun_of s (st := s_schedule) 41 rfl (He.keep_ok (s.fact 76 rfl))
  exact ⟨_, fd, ok_schedule F (txtZ X G s t) (d_planned X G s t) (d_is_too_large X G s t) (d_verdict X G s t) (d_events_of X G s t) (d_is_event_list X G s t), He.glo_ok X G (s.fact 75 rfl), F.kp, F.binds (ps := ["numbers"]) fun _ _ _ _ _ _ us hl => match us, hl with | [_], _ => rfl⟩
theorem d_World_calm_round (X : K.In h) (G : h.Ns mainGlobals mg) (s : He.SaysE hfa hfn K) (t : He.tupB K "COUNTS" hcounts = true) : MethOk P w K mg base (caZ K).wd "calm_round" 6 ["self"] (sp_World_calm_round K (caZ K)) := by
  obtain ⟨fd, F⟩ := fun_of s (st := s_World_calm_round) 74 rfl (He.meth_ok (s.fact 113 rfl)).kp
  exact ⟨_, fd, ok_World_calm_round F (txtZ X G s t) (d_World_arrive X G s t) (d_World_force X G s t), He.meth_ok (s.fact 113 rfl), F.binds (ps := ["self"]) fun _ _ _ _ _ _ us hl => match us, hl with | [_], _ => rfl⟩
theorem d_calm (X : K.In h) (G : h.Ns mainGlobals mg) (s : He.SaysE hfa hfn K) (t : He.tupB K "COUNTS" hcounts = true) : DefOk P w K mg base "calm" 7 ["world", "rounds"] (sp_calm K (caZ K)) := by
  obtain ⟨fd, F⟩ := fun_of s (st := s_calm) 5 rfl (He.keep_ok (s.fact 11 rfl))
  exact ⟨_, fd, ok_calm F (txtZ X G s t) (d_World_calm_round X G s t), He.glo_ok X G (s.fact 10 rfl), F.kp, F.binds (ps := ["world", "rounds"]) fun _ _ _ _ _ _ us hl => match us, hl with | [_, _], _ => rfl⟩
theorem d_World_twin (X : K.In h) (G : h.Ns mainGlobals mg) (s : He.SaysE hfa hfn K) (t : He.tupB K "COUNTS" hcounts = true) : MethOk P w K mg base (caZ K).wd "twin" 7 ["self"] (sp_World_twin K (caZ K)) := by
  obtain ⟨fd, F⟩ := fun_of s (st := s_World_twin) 75 rfl (He.meth_ok (s.fact 114 rfl)).kp
  exact ⟨_, fd, ok_World_twin F (txtZ X G s t) (d_Party_twin X G s t) (d_Service_twin X G s t) (d_World_init X G s t), He.meth_ok (s.fact 114 rfl), F.binds (ps := ["self"]) fun _ _ _ _ _ _ us hl => match us, hl with | [_], _ => rfl⟩
theorem d_open_world (X : K.In h) (G : h.Ns mainGlobals mg) (s : He.SaysE hfa hfn K) (t : He.tupB K "COUNTS" hcounts = true) : DefOk P w K mg base "open_world" 7 ["places", "at", "reserve", "many"] (sp_open_world K (caZ K)) := by
  obtain ⟨fd, F⟩ := fun_of s (st := s_open_world) 77 rfl (He.keep_ok (s.fact 118 rfl))
  exact ⟨_, fd, ok_open_world F (txtZ X G s t) (d_World_init X G s t) (d_is_place X G s t), He.glo_ok X G (s.fact 117 rfl), F.kp, F.binds (ps := ["places", "at", "reserve", "many"]) fun _ _ _ _ _ _ us hl => match us, hl with | [_, _, _, _], _ => rfl⟩
theorem d_change (X : K.In h) (G : h.Ns mainGlobals mg) (s : He.SaysE hfa hfn K) (t : He.tupB K "COUNTS" hcounts = true) : DefOk P w K mg base "change" 8 ["world", "op", "second"] (sp_change K (caZ K)) := by
  obtain ⟨fd, F⟩ := fun_of s (st := s_change) 6 rfl (He.keep_ok (s.fact 13 rfl))
  exact ⟨_, fd, ok_change F (txtZ X G s t) (d_calm X G s t) (d_turn_client X G s t) (d_turn_service X G s t) (d_move_message X G s t) (d_ask X G s t), He.glo_ok X G (s.fact 12 rfl), F.kp, F.binds (ps := ["world", "op", "second"]) fun _ _ _ _ _ _ us hl => match us, hl with | [_, _, _], _ => rfl⟩
theorem d_copy_world (X : K.In h) (G : h.Ns mainGlobals mg) (s : He.SaysE hfa hfn K) (t : He.tupB K "COUNTS" hcounts = true) : DefOk P w K mg base "copy_world" 8 ["places", "source", "target"] (sp_copy_world K (caZ K)) := by
  obtain ⟨fd, F⟩ := fun_of s (st := s_copy_world) 78 rfl (He.keep_ok (s.fact 120 rfl))
  exact ⟨_, fd, ok_copy_world F (txtZ X G s t) (d_World_twin X G s t) (d_is_place X G s t), He.glo_ok X G (s.fact 119 rfl), F.kp, F.binds (ps := ["places", "source", "target"]) fun _ _ _ _ _ _ us hl => match us, hl with | [_, _, _], _ => rfl⟩
theorem d_run_steps (X : K.In h) (G : h.Ns mainGlobals mg) (s : He.SaysE hfa hfn K) (t : He.tupB K "COUNTS" hcounts = true) : DefOk P w K mg base "run_steps" 9 ["world", "steps"] (sp_run_steps K (caZ K)) := by
  obtain ⟨fd, F⟩ := fun_of s (st := s_run_steps) 9 rfl (He.keep_ok (s.fact 19 rfl))
  exact ⟨_, fd, ok_run_steps F (txtZ X G s t) (d_change X G s t) (d_is_step_list X G s t), He.glo_ok X G (s.fact 18 rfl), F.kp, F.binds (ps := ["world", "steps"]) fun _ _ _ _ _ _ us hl => match us, hl with | [_, _], _ => rfl⟩
theorem d_in_world (X : K.In h) (G : h.Ns mainGlobals mg) (s : He.SaysE hfa hfn K) (t : He.tupB K "COUNTS" hcounts = true) : DefOk P w K mg base "in_world" 10 ["places", "op", "at", "second", "row"] (sp_in_world K (caZ K)) := by
  obtain ⟨fd, F⟩ := fun_of s (st := s_in_world) 82 rfl (He.keep_ok (s.fact 128 rfl))
  exact ⟨_, fd, ok_in_world F (txtZ X G s t) (d_look X G s t) (d_run_steps X G s t) (d_change X G s t) (d_is_second_out X G s t) (d_is_place X G s t), He.glo_ok X G (s.fact 127 rfl), F.kp, F.binds (ps := ["places", "op", "at", "second", "row"]) fun _ _ _ _ _ _ us hl => match us, hl with | [_, _, _, _, _], _ => rfl⟩
theorem d_answer_of (X : K.In h) (G : h.Ns mainGlobals mg) (s : He.SaysE hfa hfn K) (t : He.tupB K "COUNTS" hcounts = true) : DefOk P w K mg base "answer_of" 11 ["places", "op", "numbers", "row"] (sp_answer_of K (caZ K)) := by
  obtain ⟨fd, F⟩ := fun_of s (st := s_answer_of) 83 rfl (He.keep_ok (s.fact 130 rfl))
  exact ⟨_, fd, ok_answer_of F (txtZ X G s t) (d_in_world X G s t) (d_schedule X G s t) (d_judge X G s t) (d_copy_world X G s t) (d_open_world X G s t), He.glo_ok X G (s.fact 129 rfl), F.kp, F.binds (ps := ["places", "op", "numbers", "row"]) fun _ _ _ _ _ _ us hl => match us, hl with | [_, _, _, _], _ => rfl⟩
theorem d_answers (X : K.In h) (G : h.Ns mainGlobals mg) (s : He.SaysE hfa hfn K) (t : He.tupB K "COUNTS" hcounts = true) : DefOk P w K mg base "answers" 12 ["calls"] (sp_answers K (caZ K)) := by
  obtain ⟨fd, F⟩ := fun_of s (st := s_answers) 85 rfl (He.keep_ok (s.fact 134 rfl))
  exact ⟨_, fd, ok_answers F (txtZ X G s t) (d_answer_of X G s t) (d_has_row X G s t), He.glo_ok X G (s.fact 133 rfl), F.kp, F.binds (ps := ["calls"]) fun _ _ _ _ _ _ us hl => match us, hl with | [_], _ => rfl⟩
end
end Tz
/-! The pure law, worlds: the mirror's world stands for the document's. -/
namespace Tz
open Vbkvad (Packet Event Client Dater Disk Letter Party current nat)
theorem nat_eq (n : Nat) : nat n = (n : Int) := rfl
def mpk (p : Packet) : M5 := match p.letter with
  | .numberAsk b k => ⟨0, Vbkvad.partyClient p.source, (b : Int), (k : Int), 0⟩
  | .number b k n => ⟨1, Vbkvad.partyClient p.target, (b : Int), (k : Int), (n : Int)⟩
def mev : Event → M6
  | .requested c b k => ⟨0, 0, (c : Int), (b : Int), (k : Int), 0⟩
  | .wrote l n => ⟨1, (l : Int), 0, 0, 0, (n : Int)⟩
  | .made l c b k n => ⟨2, (l : Int), (c : Int), (b : Int), (k : Int), (n : Int)⟩
  | .sent l c b k n => ⟨3, (l : Int), (c : Int), (b : Int), (k : Int), (n : Int)⟩
  | .received c b k n => ⟨4, 0, (c : Int), (b : Int), (k : Int), (n : Int)⟩
  | .crashed l n => ⟨5, (l : Int), 0, 0, 0, (n : Int)⟩
  | .restarted l n => ⟨6, (l : Int), 0, 0, 0, (n : Int)⟩
theorem mpk_row (p : Packet) : (mpk p).row = Vbkvad.packetRow p := by
  unfold mpk Vbkvad.packetRow
  cases p.letter <;> rfl
theorem mev_row (e : Event) : (mev e).row = Vbkvad.eventRow e := by cases e <;> rfl
def castL (l : List Nat) : List Int := l.map fun n : Nat => (n : Int)
def mcl (h : List Event) (c : Client) : MParty := ⟨c.up, c.waiting, (c.boot : Int), (c.nonce : Int), castL (Vbkvad.receivedBy h c.id)⟩
def mdk (d : Disk Nat) : MDisk := ⟨(d.forced : Int), castL d.later⟩
def msv (d : Dater) (l : Nat) : MSrv := ⟨d.up, mdk d.disk, (d.next : Int), d.outbox.map mpk, (l : Int)⟩
def abs (w : Vbkvad.World) : MWorld := ⟨(w.reserve : Int), msv w.dater w.lives, w.clients.map (mcl w.history), w.net.map mpk, w.history.map mev⟩
/-! ### disks -/
theorem getD_cast (o : Option Nat) (d : Nat) : ((o.getD d : Nat) : Int) = (o.map fun n : Nat => (n : Int)).getD (d : Int) := by cases o <;> rfl
theorem mdk_current (d : Disk Nat) : (mdk d).current = ((current d : Nat) : Int) := by
  unfold MDisk.current mdk current castL
  rw [List.getLast?_map, getD_cast]
theorem mdk_write (d : Disk Nat) (x : Nat) : mdk (Vbkvad.write d x) = (mdk d).write (x : Int) := by
  unfold mdk Vbkvad.write MDisk.write castL
  rw [List.map_append] <;> rfl
theorem mdk_force (d : Disk Nat) : mdk (Vbkvad.force d) = (mdk d).force := by
  unfold MDisk.force
  rw [mdk_current] <;> rfl
theorem mdk_held (d : Disk Nat) : (mdk d).held = castL (d.forced :: d.later) := rfl
theorem take_last (l : List Nat) (k : Nat) : (l.take (k + 1)).getLast? = l[min (k + 1) l.length - 1]? := by
  rw [List.getLast?_eq_getElem?, List.length_take, List.getElem?_take]
  split
  · rfl
  · rename_i h
    rw [List.getElem?_eq_none]
    omega
theorem mdk_crash (d : Disk Nat) (kept : Int) (h0 : 0 ≤ kept) : mdk (Vbkvad.cutDisk d kept.toNat) = (mdk d).crash kept := by
  unfold Vbkvad.cutDisk MDisk.crash mdk
  simp only [castL, List.length_map]
  cases hk : kept.toNat with
  | zero =>
    have e : kept = 0 := by omega
    subst e
    have : ¬ ((0 : Int) < if (d.later.length : Int) < 0 then (d.later.length : Int) else 0) := by
      split <;> omega
    rw [if_neg this]
    rfl
  | succ k =>
    rw [take_last]
    cases hl : d.later with
    | nil =>
      have : ¬ ((0 : Int) < if (([] : List Nat).length : Int) < kept then (([] : List Nat).length : Int) else kept) := by
        have e0 : (([] : List Nat).length : Int) = 0 := rfl
        rw [e0]
        split <;> omega
      rw [if_neg this]
      rfl
    | cons a r =>
      have hpos : (0 : Int) < if (((a :: r).length : Nat) : Int) < kept then (((a :: r).length : Nat) : Int) else kept := by
        split
        · rw [List.length_cons]
          omega
        · omega
      rw [if_pos hpos]
      have ei : ((if (((a :: r).length : Nat) : Int) < kept then (((a :: r).length : Nat) : Int) else kept) - 1).toNat = min (k + 1) (a :: r).length - 1 := by
        split
        · omega
        · omega
      rw [ei, List.getElem?_map, getD_cast]
      rfl
/-! ### the invariant -/
def Rq (n : Nat) (p : Packet) : Prop := ∃ c b k, p = ⟨.client c, .dater, .numberAsk b k⟩ ∧ 1 ≤ c ∧ c ≤ n
def Rp (n : Nat) (p : Packet) : Prop := ∃ c b k s, p = ⟨.dater, .client c, .number b k s⟩ ∧ 1 ≤ c ∧ c ≤ n
abbrev Q4 : Type := Nat × Nat × Nat × Nat
/-- timestamp, client, boot, nonce of a reply -/
def trip (p : Packet) : List Q4 := match p.target, p.letter with
  | .client c, .number b k s => [(s, c, b, k)]
  | _, _ => []
def recv : Event → Option Q4
  | .received c b k n => some (n, c, b, k)
  | _ => none
def InFl (w : Vbkvad.World) (fl : List Packet) (p : Packet) : Prop := p ∈ w.net ∨ p ∈ fl
def Told (w : Vbkvad.World) (fl : List Packet) (x : Q4) : Prop := (∃ p, InFl w fl p ∧ x ∈ trip p) ∨ ∃ e ∈ w.history, recv e = some x
def isRestarted : Event → Bool
  | .restarted _ _ => true
  | _ => false
structure Inv (w : Vbkvad.World) (fl : List Packet) : Prop where
  ids : ∀ (i : Nat) (c : Client), w.clients[i]? = some c → c.id = i + 1
  size : w.clients.length ≤ 8
  pk : ∀ p, InFl w fl p → Rq w.clients.length p ∨ Rp w.clients.length p
  out : ∀ p ∈ w.dater.outbox, Rp w.clients.length p
  lives : w.lives = Vbkvad.countOf w.history isRestarted
  res : 1 ≤ w.reserve
  t1 : ∀ x, Told w fl x → x.1 < w.dater.disk.forced
  t2 : w.dater.up = true → ∀ x, Told w fl x → x.1 < w.dater.next
  t3 : ∀ v ∈ w.dater.disk.later, w.dater.disk.forced ≤ v
  t4 : (w.dater.outbox.flatMap trip).Pairwise fun x y => x.1 < y.1
  t5 : ∀ x ∈ w.dater.outbox.flatMap trip, x.1 < w.dater.next ∧ ∀ y, Told w fl y → y.1 < x.1
  t6 : w.dater.up = true → w.dater.next ≤ current w.dater.disk
  t7 : ∀ x y, Told w fl x → Told w fl y → x.1 = y.1 → x = y
  t8 : w.dater.up = false → w.dater.outbox = []
theorem Inv.fresh (r n : Nat) (h1 : 1 ≤ r) (h8 : n ≤ 8) : Inv (Vbkvad.openWorld r n) [] := by
  have nt : ∀ x, ¬ Told (Vbkvad.openWorld r n) [] x := fun x h => by
    rcases h with ⟨p, hp, _⟩ | ⟨e, he, _⟩
    · rcases hp with hp | hp <;> cases hp
    · cases he
  refine ⟨fun i c h => ?_, ?_, fun p hp => ?_, fun p hp => (List.not_mem_nil hp).elim, rfl, h1, fun x h => (nt x h).elim, fun _ x h => (nt x h).elim, fun v hv => (List.not_mem_nil hv).elim, List.Pairwise.nil, fun x hx => (List.not_mem_nil hx).elim, fun _ => Nat.le_refl _, fun x y h => (nt x h).elim, fun _ => rfl⟩
  · have h2 : ((List.range n).map fun (i : Nat) => (⟨i + 1, true, 0, 0, false⟩ : Client))[i]? = some c := h
    rw [List.getElem?_map] at h2
    cases q : (List.range n)[i]? with
    | none =>
      rw [q] at h2
      cases h2
    | some j =>
      rw [q] at h2
      have e1 := Option.some.inj h2
      rw [← e1]
      have hr := List.getElem?_eq_some_iff.mp q
      obtain ⟨hl, he⟩ := hr
      rw [List.getElem_range] at he
      show j + 1 = i + 1
      rw [he]
  · show ((List.range n).map _).length ≤ 8
    rw [List.length_map, List.length_range]
    exact h8
  · rcases hp with hp | hp <;> cases hp
/-- less that is told, the service as it was -/
theorem Inv.less {w w' : Vbkvad.World} {fl fl' : List Packet} (h : Inv w fl) (ids : ∀ (i : Nat) (c : Client), w'.clients[i]? = some c → c.id = i + 1) (len : w'.clients.length = w.clients.length)
    (pk : ∀ p, InFl w' fl' p → Rq w.clients.length p ∨ Rp w.clients.length p) (dater : w'.dater = w.dater) (res : w'.reserve = w.reserve) (lives : w'.lives = Vbkvad.countOf w'.history isRestarted) (told : ∀ x, Told w' fl' x → Told w fl x) : Inv w' fl' := by
  refine ⟨ids, by rw [len]; exact h.size, fun p hp => by rw [len]; exact pk p hp, by rw [dater, len]; exact h.out, lives, by rw [res]; exact h.res, ?_, ?_, by rw [dater]; exact h.t3, by rw [dater]; exact h.t4, ?_, by rw [dater]; exact h.t6, fun x y hx hy => h.t7 x y (told x hx) (told y hy), by rw [dater]; exact h.t8⟩
  · rw [dater]
    exact fun x hx => h.t1 x (told x hx)
  · rw [dater]
    exact fun hu x hx => h.t2 hu x (told x hx)
  · rw [dater]
    exact fun x hx => ⟨(h.t5 x hx).1, fun y hy => (h.t5 x hx).2 y (told y hy)⟩
/-! ### clients by number -/
theorem find_ids : ∀ (l : List Client) (s i : Nat), (∀ (j : Nat) (c : Client), l[j]? = some c → c.id = s + j) → l.find? (fun c => c.id == i) = if s ≤ i then l[i - s]? else none
  | [], s, i, _ => by
    rw [List.find?_nil, List.getElem?_nil]
    split <;> rfl
  | c :: r, s, i, h => by
    have hc : c.id = s := h 0 c rfl
    have ih := find_ids r (s + 1) i fun j d hd => by
      have := h (j + 1) d hd
      omega
    rw [List.find?_cons, hc]
    by_cases e : s = i
    · subst e
      rw [beq_self_eq_true, if_pos (Nat.le_refl _), Nat.sub_self]
      rfl
    · rw [beq_eq_false_iff_ne.mpr e]
      show r.find? (fun c => c.id == i) = _
      rw [ih]
      by_cases hle : s ≤ i
      · rw [if_pos hle, if_pos (by omega)]
        have e2 : i - s = (i - (s + 1)) + 1 := by omega
        rw [e2, List.getElem?_cons_succ]
      · rw [if_neg hle, if_neg (by omega)]
theorem Inv.at {w : Vbkvad.World} {fl : List Packet} (h : Inv w fl) (i : Nat) : Vbkvad.clientAt w i = if 1 ≤ i then w.clients[i - 1]? else none :=
  find_ids w.clients 1 i fun j c hc => by
    have := h.ids j c hc
    omega
theorem Inv.atId {w : Vbkvad.World} {fl : List Packet} (h : Inv w fl) {i : Nat} {c : Client} (hc : Vbkvad.clientAt w i = some c) : c.id = i ∧ 1 ≤ i ∧ w.clients[i - 1]? = some c ∧ i ≤ w.clients.length := by
  rw [h.at i] at hc
  split at hc
  · rename_i h1
    have e := h.ids _ _ hc
    have hl := (List.getElem?_eq_some_iff.mp hc).1
    exact ⟨by omega, h1, hc, by omega⟩
  · cases hc
theorem map_set_ids : ∀ (l : List Client) (s : Nat) (d : Client), (∀ (j : Nat) (c : Client), l[j]? = some c → c.id = s + j) → s ≤ d.id → l.map (fun x => if x.id = d.id then d else x) = l.set (d.id - s) d
  | [], s, d, _, _ => rfl
  | c :: r, s, d, h, hs => by
    have hc : c.id = s := h 0 c rfl
    have hr : ∀ (j : Nat) (x : Client), r[j]? = some x → x.id = (s + 1) + j := fun j x hx => by
      have := h (j + 1) x hx
      omega
    rw [List.map_cons, hc]
    by_cases e : s = d.id
    · rw [if_pos e]
      have e2 : d.id - s = 0 := by omega
      rw [e2, List.set_cons_zero]
      congr 1
      have : ∀ x ∈ r, (if x.id = d.id then d else x) = x := fun x hx => by
        obtain ⟨j, hj⟩ := List.mem_iff_getElem?.mp hx
        have := hr j x hj
        rw [if_neg (by omega)]
      rw [List.map_congr_left this, List.map_id']
    · rw [if_neg e]
      have e2 : d.id - s = (d.id - (s + 1)) + 1 := by omega
      rw [e2, List.set_cons_succ, map_set_ids r (s + 1) d hr (by omega)]
theorem Inv.set {w : Vbkvad.World} {fl : List Packet} (h : Inv w fl) {i : Nat} {c d : Client} (hc : Vbkvad.clientAt w i = some c) (hd : d.id = c.id) : (Vbkvad.setClient w d).clients = w.clients.set (i - 1) d := by
  obtain ⟨e1, e2, e3, e4⟩ := h.atId hc
  have := map_set_ids w.clients 1 d (fun j c hc => by
    have := h.ids j c hc
    omega) (by omega)
  unfold Vbkvad.setClient
  simp only
  rw [this, hd, e1]
theorem ids_set {l : List Client} (h : ∀ (i : Nat) (c : Client), l[i]? = some c → c.id = i + 1) {k : Nat} {c d : Client} (hk : l[k]? = some c) (hd : d.id = c.id) : ∀ (i : Nat) (x : Client), (l.set k d)[i]? = some x → x.id = i + 1 := fun i x hx => by
  rw [List.getElem?_set] at hx
  split at hx
  · rename_i e
    split at hx
    · have := Option.some.inj hx
      rw [← this, hd, h k c hk, e]
    · cases hx
  · exact h i x hx
end Tz
/-! The pure law, worlds: what each change does. -/
namespace Tz
open Vbkvad (Packet Event Client Dater Disk Letter Party current nat)
theorem abs_party {w : Vbkvad.World} {fl : List Packet} (h : Inv w fl) {i : Nat} {c : Client} (hc : Vbkvad.clientAt w i = some c) : (abs w).party (i : Int) = mcl w.history c := by
  obtain ⟨e1, e2, e3, e4⟩ := h.atId hc
  unfold MWorld.party abs
  have e : ((i : Int) - 1).toNat = i - 1 := by omega
  simp only [e, List.getElem?_map, e3]
  rfl
theorem abs_len (w : Vbkvad.World) : (abs w).parties.length = w.clients.length := List.length_map _
theorem at_none {w : Vbkvad.World} {fl : List Packet} (h : Inv w fl) (i : Nat) : Vbkvad.clientAt w i = none ↔ ¬ (1 ≤ i ∧ i ≤ w.clients.length) := by
  rw [h.at i]
  split
  · rw [List.getElem?_eq_none_iff]
    omega
  · rename_i hh
    constructor
    · intro _
      omega
    · intro _
      rfl
theorem at_some {w : Vbkvad.World} {fl : List Packet} (h : Inv w fl) {i : Nat} (h1 : 1 ≤ i) (h2 : i ≤ w.clients.length) : ∃ c, Vbkvad.clientAt w i = some c := by
  cases q : Vbkvad.clientAt w i with
  | none => exact absurd ⟨h1, h2⟩ ((at_none h i).mp q)
  | some c => exact ⟨c, rfl⟩
/-- what a client has received does not hang on other events -/
def isReceived : Event → Bool
  | .received _ _ _ _ => true
  | _ => false
theorem receivedBy_append (h l : List Event) (i : Nat) : Vbkvad.receivedBy (h ++ l) i = Vbkvad.receivedBy h i ++ Vbkvad.receivedBy l i := List.filterMap_append
theorem receivedBy_none : ∀ (l : List Event) (i : Nat), l.all (fun e => !isReceived e) = true → Vbkvad.receivedBy l i = []
  | [], _, _ => rfl
  | e :: r, i, h => by
    rw [List.all_cons, Bool.and_eq_true] at h
    have ih := receivedBy_none r i h.2
    unfold Vbkvad.receivedBy at ih ⊢
    cases e with
    | received => cases h.1
    | _ =>
      rw [List.filterMap_cons]
      exact ih
theorem mcl_more {h l : List Event} (hl : l.all (fun e => !isReceived e) = true) (c : Client) : mcl (h ++ l) c = mcl h c := by
  unfold mcl
  rw [receivedBy_append, receivedBy_none l c.id hl, List.append_nil]
theorem map_more {h l : List Event} (hl : l.all (fun e => !isReceived e) = true) (cs : List Client) : cs.map (mcl (h ++ l)) = cs.map (mcl h) := List.map_congr_left fun c _ => mcl_more hl c
theorem countOf_append (h l : List Event) (p : Event → Bool) : Vbkvad.countOf (h ++ l) p = Vbkvad.countOf h p + Vbkvad.countOf l p := by
  unfold Vbkvad.countOf
  rw [List.filter_append, List.length_append]
theorem told_more {w w' : Vbkvad.World} {fl fl' : List Packet} {l : List Event} (hh : w'.history = w.history ++ l) (hl : ∀ e ∈ l, recv e = none) (hp : ∀ p, InFl w' fl' p → InFl w fl p ∨ trip p = []) : ∀ x, Told w' fl' x → Told w fl x := fun x hx => by
  rcases hx with ⟨p, h1, h2⟩ | ⟨e, h1, h2⟩
  · rcases hp p h1 with h3 | h3
    · exact .inl ⟨p, h3, h2⟩
    · rw [h3] at h2
      cases h2
  · rw [hh] at h1
    rcases List.mem_append.mp h1 with h3 | h3
    · exact .inr ⟨e, h3, h2⟩
    · rw [hl e h3] at h2
      cases h2
/-! ### a request arrives -/
theorem serve_abs (d : Dater) (l r c b k : Nat) : msv (Vbkvad.daterReceive r d c (.numberAsk b k)) l = (msv d l).serve ⟨0, (c : Int), (b : Int), (k : Int), 0⟩ (r : Int) := by
  unfold Vbkvad.daterReceive MSrv.serve MSrv.wrote
  have e : (msv d l).disk.current = ((current d.disk : Nat) : Int) := mdk_current d.disk
  have e2 : (msv d l).next = (d.next : Int) := rfl
  rw [e, e2]
  by_cases h : d.next < current d.disk
  · rw [if_pos (show (d.next : Int) < ((current d.disk : Nat) : Int) by omega)]
    simp only [if_pos h]
    unfold msv
    simp only [List.map_append]
    rfl
  · rw [if_neg (show ¬ (d.next : Int) < ((current d.disk : Nat) : Int) by omega)]
    simp only [if_neg h]
    unfold msv
    simp only [List.map_append, mdk_write]
    rfl
theorem serve_rows (w : Vbkvad.World) (c b k : Nat) : (Vbkvad.daterEvents w c (.numberAsk b k)).map mev = (abs w).srv.serveRows ⟨0, (c : Int), (b : Int), (k : Int), 0⟩ (abs w).reserve := by
  unfold Vbkvad.daterEvents MSrv.serveRows MSrv.wroteRows
  have e : (abs w).srv.disk.current = ((current w.dater.disk : Nat) : Int) := mdk_current w.dater.disk
  have e2 : (abs w).srv.next = (w.dater.next : Int) := rfl
  rw [e, e2]
  by_cases h : w.dater.next < current w.dater.disk
  · rw [if_pos (show (w.dater.next : Int) < ((current w.dater.disk : Nat) : Int) by omega)]
    simp only [if_pos h]
    rfl
  · rw [if_neg (show ¬ (w.dater.next : Int) < ((current w.dater.disk : Nat) : Int) by omega)]
    simp only [if_neg h]
    rfl
theorem events_eq (w : Vbkvad.World) (c b k : Nat) : Vbkvad.daterEvents w c (.numberAsk b k) = (if w.dater.next < current w.dater.disk then [] else [.wrote w.lives (w.dater.next + w.reserve)]) ++ [.made w.lives c b k w.dater.next] := rfl
theorem current_mem (d : Disk Nat) : current d = d.forced ∨ current d ∈ d.later := by
  unfold current
  cases q : d.later.getLast? with
  | none => exact .inl rfl
  | some v => exact .inr (List.mem_of_getLast? q)
theorem Inv.cur {w : Vbkvad.World} {fl : List Packet} (h : Inv w fl) : w.dater.disk.forced ≤ current w.dater.disk := by
  rcases current_mem w.dater.disk with e | e
  · omega
  · exact h.t3 _ e
theorem current_write (d : Disk Nat) (x : Nat) : current (Vbkvad.write d x) = x := by
  unfold current Vbkvad.write
  simp
/-- the service answers -/
theorem Inv.serve {w : Vbkvad.World} {fl : List Packet} (h : Inv w fl) (hu : w.dater.up = true) {c b k : Nat} (h1 : 1 ≤ c) (h2 : c ≤ w.clients.length) :
    Inv (Vbkvad.note { w with dater := Vbkvad.daterReceive w.reserve w.dater c (.numberAsk b k) } (Vbkvad.daterEvents w c (.numberAsk b k))) fl := by
  have hev : ∀ e ∈ Vbkvad.daterEvents w c (.numberAsk b k), recv e = none := fun e he => by
    rw [events_eq] at he
    rcases List.mem_append.mp he with he | he
    · split at he
      · cases he
      · have : e = _ := List.mem_singleton.mp he
        rw [this] <;> rfl
    · have : e = _ := List.mem_singleton.mp he
      rw [this] <;> rfl
  have ht : ∀ x, Told (Vbkvad.note { w with dater := Vbkvad.daterReceive w.reserve w.dater c (.numberAsk b k) } (Vbkvad.daterEvents w c (.numberAsk b k))) fl x → Told w fl x := told_more rfl hev fun p hp => .inl hp
  have eo : (Vbkvad.daterReceive w.reserve w.dater c (.numberAsk b k)).outbox = w.dater.outbox ++ [⟨.dater, .client c, .number b k w.dater.next⟩] := by
    unfold Vbkvad.daterReceive
    by_cases q : w.dater.next < current w.dater.disk
    · simp only [if_pos q]
    · simp only [if_neg q]
  have en : (Vbkvad.daterReceive w.reserve w.dater c (.numberAsk b k)).next = w.dater.next + 1 := rfl
  have ef : (Vbkvad.daterReceive w.reserve w.dater c (.numberAsk b k)).disk.forced = w.dater.disk.forced := by
    unfold Vbkvad.daterReceive
    by_cases q : w.dater.next < current w.dater.disk
    · simp only [if_pos q]
    · simp only [if_neg q]
      rfl
  have hc := h.cur
  refine ⟨h.ids, h.size, h.pk, fun p hp => ?_, ?_, h.res, fun x hx => ?_, fun _ x hx => ?_, fun v hv => ?_, ?_, fun x hx => ?_, fun _ => ?_, fun x y hx hy => h.t7 x y (ht x hx) (ht y hy), fun hd => ?_⟩
  · have hp2 : p ∈ (Vbkvad.daterReceive w.reserve w.dater c (.numberAsk b k)).outbox := hp
    rw [eo] at hp2
    rcases List.mem_append.mp hp2 with hp2 | hp2
    · exact h.out p hp2
    · rw [List.mem_singleton.mp hp2]
      exact ⟨c, b, k, _, rfl, h1, h2⟩
  · show w.lives = Vbkvad.countOf (w.history ++ _) isRestarted
    rw [countOf_append, ← h.lives]
    unfold Vbkvad.daterEvents
    by_cases q : w.dater.next < current w.dater.disk
    · simp only [if_pos q]
      rfl
    · simp only [if_neg q]
      rfl
  · show x.1 < (Vbkvad.daterReceive w.reserve w.dater c (.numberAsk b k)).disk.forced
    rw [ef]
    exact h.t1 x (ht x hx)
  · show x.1 < (Vbkvad.daterReceive w.reserve w.dater c (.numberAsk b k)).next
    rw [en]
    have := h.t2 hu x (ht x hx)
    omega
  · show (Vbkvad.daterReceive w.reserve w.dater c (.numberAsk b k)).disk.forced ≤ v
    rw [ef]
    have hv2 : v ∈ (Vbkvad.daterReceive w.reserve w.dater c (.numberAsk b k)).disk.later := hv
    unfold Vbkvad.daterReceive at hv2
    by_cases q : w.dater.next < current w.dater.disk
    · simp only [if_pos q] at hv2
      exact h.t3 v hv2
    · simp only [if_neg q] at hv2
      rcases List.mem_append.mp hv2 with hv2 | hv2
      · exact h.t3 v hv2
      · have := List.mem_singleton.mp hv2
        omega
  · show ((Vbkvad.daterReceive w.reserve w.dater c (.numberAsk b k)).outbox.flatMap trip).Pairwise fun x y => x.1 < y.1
    rw [eo, List.flatMap_append, List.pairwise_append]
    refine ⟨h.t4, List.pairwise_singleton _ _, fun x hx y hy => ?_⟩
    have : y = (w.dater.next, c, b, k) := List.mem_singleton.mp hy
    rw [this]
    exact (h.t5 x hx).1
  · have hx2 : x ∈ (Vbkvad.daterReceive w.reserve w.dater c (.numberAsk b k)).outbox.flatMap trip := hx
    rw [eo, List.flatMap_append] at hx2
    show x.1 < w.dater.next + 1 ∧ _
    rcases List.mem_append.mp hx2 with hx2 | hx2
    · have := h.t5 x hx2
      exact ⟨by omega, fun y hy => this.2 y (ht y hy)⟩
    · have : x = (w.dater.next, c, b, k) := List.mem_singleton.mp hx2
      rw [this]
      exact ⟨by show w.dater.next < w.dater.next + 1; omega, fun y hy => h.t2 hu y (ht y hy)⟩
  · show w.dater.next + 1 ≤ current (Vbkvad.daterReceive w.reserve w.dater c (.numberAsk b k)).disk
    unfold Vbkvad.daterReceive
    by_cases q : w.dater.next < current w.dater.disk
    · simp only [if_pos q]
      omega
    · simp only [if_neg q]
      rw [current_write]
      have := h.res
      omega
  · have e : (Vbkvad.daterReceive w.reserve w.dater c (.numberAsk b k)).up = true := by
      unfold Vbkvad.daterReceive
      by_cases q : w.dater.next < current w.dater.disk
      · simp only [if_pos q, hu]
      · simp only [if_neg q, hu]
    have hd2 : (Vbkvad.daterReceive w.reserve w.dater c (.numberAsk b k)).up = false := hd
    rw [e] at hd2
    cases hd2
theorem not_received_events (w : Vbkvad.World) (c b k : Nat) : (Vbkvad.daterEvents w c (.numberAsk b k)).all (fun e => !isReceived e) = true := by
  rw [events_eq]
  split <;> rfl
theorem Inv.sub {w : Vbkvad.World} {fl fl' : List Packet} (h : Inv w fl) (hs : ∀ p ∈ fl', InFl w fl p) : Inv w fl' := by
  have hi : ∀ p, InFl w fl' p → InFl w fl p := fun p hp => by
    rcases hp with hp | hp
    · exact .inl hp
    · exact hs p hp
  exact h.less h.ids rfl (fun p hp => h.pk p (hi p hp)) rfl rfl h.lives (told_more (l := []) (by rw [List.append_nil]) (fun e he => (List.not_mem_nil he).elim) fun p hp => .inl (hi p hp))
/-- a message arrives -/
theorem arrive_abs {w : Vbkvad.World} {p : Packet} {fl : List Packet} (h : Inv w (p :: fl)) : abs (Vbkvad.arrive w p) = (abs w).arrive (mpk p) ∧ Inv (Vbkvad.arrive w p) fl := by
  have hp := h.pk p (.inr List.mem_cons_self)
  have hsub : Inv w fl := h.sub fun q hq => .inr (List.mem_cons_of_mem _ hq)
  rcases hp with ⟨c, b, k, rfl, h1, h2⟩ | ⟨c, b, k, s, rfl, h1, h2⟩
  · -- a request
    have em : (abs w).arrive (mpk ⟨.client c, .dater, .numberAsk b k⟩) = (abs w).arriveRequest ⟨0, (c : Int), (b : Int), (k : Int), 0⟩ := rfl
    rw [em]
    have ea : Vbkvad.arrive w ⟨.client c, .dater, .numberAsk b k⟩ = if w.dater.up = true then Vbkvad.note { w with dater := Vbkvad.daterReceive w.reserve w.dater c (.numberAsk b k) } (Vbkvad.daterEvents w c (.numberAsk b k)) else w := rfl
    rw [ea]
    unfold MWorld.arriveRequest
    have eu : (abs w).srv.up = w.dater.up := rfl
    rw [eu]
    by_cases hu : w.dater.up = true
    · rw [if_pos hu, if_pos hu]
      refine ⟨?_, hsub.serve hu h1 h2⟩
      rw [← serve_rows]
      unfold abs Vbkvad.note
      simp only [List.map_append, map_more (not_received_events w c b k), serve_abs]
    · rw [if_neg hu, if_neg hu]
      exact ⟨rfl, hsub⟩
  · -- a reply
    have em : (abs w).arrive (mpk ⟨.dater, .client c, .number b k s⟩) = (abs w).arriveReply ⟨1, (c : Int), (b : Int), (k : Int), (s : Int)⟩ := rfl
    rw [em]
    obtain ⟨x, hx⟩ := at_some h h1 h2
    obtain ⟨e1, e2, e3, e4⟩ := h.atId hx
    have ea : Vbkvad.arrive w ⟨.dater, .client c, .number b k s⟩ = if x.up = true ∧ x.waiting = true ∧ b = x.boot ∧ k = x.nonce then Vbkvad.note (Vbkvad.setClient w { x with waiting := false }) [.received x.id x.boot x.nonce s] else w := by
      show (match Vbkvad.clientAt w c with
        | none => w
        | some x => match Vbkvad.acceptedBy x (.number b k s) with
          | none => w
          | some n => Vbkvad.note (Vbkvad.setClient w { x with waiting := false }) [.received x.id x.boot x.nonce n]) = _
      rw [hx]
      show (match (if x.up = true ∧ x.waiting = true ∧ b = x.boot ∧ k = x.nonce then some s else none) with
          | none => w
          | some n => Vbkvad.note (Vbkvad.setClient w { x with waiting := false }) [.received x.id x.boot x.nonce n]) = _
      by_cases hq : x.up = true ∧ x.waiting = true ∧ b = x.boot ∧ k = x.nonce
      · rw [if_pos hq, if_pos hq]
      · rw [if_neg hq, if_neg hq]
    rw [ea]
    unfold MWorld.arriveReply
    have ep : (abs w).party ((⟨1, (c : Int), (b : Int), (k : Int), (s : Int)⟩ : M5).c) = mcl w.history x := abs_party h hx
    rw [ep]
    have eacc : (mcl w.history x).accepts (b : Int) (k : Int) = decide (x.up = true ∧ x.waiting = true ∧ b = x.boot ∧ k = x.nonce) := by
      unfold MParty.accepts mcl
      simp only
      have d1 : decide ((x.boot : Int) = (b : Int)) = decide (b = x.boot) := decide_eq_decide.mpr (by omega)
      have d2 : decide ((x.nonce : Int) = (k : Int)) = decide (k = x.nonce) := decide_eq_decide.mpr (by omega)
      rw [d1, d2]
      simp only [Bool.decide_and, Bool.decide_eq_true]
    rw [eacc]
    by_cases hq : x.up = true ∧ x.waiting = true ∧ b = x.boot ∧ k = x.nonce
    · rw [if_pos hq, decide_eq_true hq, if_pos rfl]
      obtain ⟨q1, q2, q3, q4⟩ := hq
      have es := h.set (d := { x with waiting := false }) hx rfl
      constructor
      · show abs (Vbkvad.note (Vbkvad.setClient w { x with waiting := false }) [.received x.id x.boot x.nonce s]) = _
        have eidx : ((c : Int) - 1).toNat = c - 1 := by omega
        unfold abs
        have ehist : (Vbkvad.note (Vbkvad.setClient w { x with waiting := false }) [.received x.id x.boot x.nonce s]).history = w.history ++ [.received x.id x.boot x.nonce s] := rfl
        have ecl : (Vbkvad.note (Vbkvad.setClient w { x with waiting := false }) [.received x.id x.boot x.nonce s]).clients = w.clients.set (c - 1) { x with waiting := false } := es
        rw [ehist, ecl]
        have eparties : (w.clients.set (c - 1) { x with waiting := false }).map (mcl (w.history ++ [.received x.id x.boot x.nonce s])) = (w.clients.map (mcl w.history)).set (c - 1) ((mcl w.history x).receive (s : Int)) := by
          refine List.ext_getElem? fun j => ?_
          rw [List.getElem?_map, List.getElem?_set, List.getElem?_set, List.length_map]
          by_cases hj : c - 1 = j
          · rw [if_pos hj, if_pos hj]
            have hl : c - 1 < w.clients.length := (List.getElem?_eq_some_iff.mp e3).1
            rw [if_pos hl, if_pos hl]
            show some (mcl _ { x with waiting := false }) = _
            unfold mcl MParty.receive
            simp only
            rw [receivedBy_append]
            have er : Vbkvad.receivedBy [.received x.id x.boot x.nonce s] x.id = [s] := by
              unfold Vbkvad.receivedBy
              simp
            rw [er]
            unfold castL
            rw [List.map_append] <;> rfl
          · rw [if_neg hj, if_neg hj, List.getElem?_map]
            cases hc : w.clients[j]? with
            | none => rfl
            | some y =>
              have hy := h.ids j y hc
              show some (mcl _ y) = some (mcl _ y)
              unfold mcl
              rw [receivedBy_append]
              have er : Vbkvad.receivedBy [.received x.id x.boot x.nonce s] y.id = [] := by
                unfold Vbkvad.receivedBy
                have hne : ¬ x.id = y.id := by omega
                simp [hne]
              rw [er, List.append_nil]
        rw [eparties]
        simp only [List.map_append, eidx]
        rw [e1, ← q3, ← q4]
        rfl
      · have told : ∀ y, Told (Vbkvad.note (Vbkvad.setClient w { x with waiting := false }) [.received x.id x.boot x.nonce s]) fl y → Told w (⟨.dater, .client c, .number b k s⟩ :: fl) y := fun y hy => by
          rcases hy with ⟨p, hp1, hp2⟩ | ⟨e, he1, he2⟩
          · refine .inl ⟨p, ?_, hp2⟩
            rcases hp1 with hp1 | hp1
            · exact .inl hp1
            · exact .inr (List.mem_cons_of_mem _ hp1)
          · have he3 : e ∈ w.history ++ [.received x.id x.boot x.nonce s] := he1
            rcases List.mem_append.mp he3 with he3 | he3
            · exact .inr ⟨e, he3, he2⟩
            · rw [List.mem_singleton.mp he3] at he2
              have : y = (s, x.id, x.boot, x.nonce) := (Option.some.inj he2).symm
              rw [this, e1, ← q3, ← q4]
              exact .inl ⟨_, .inr List.mem_cons_self, List.mem_singleton.mpr rfl⟩
        refine h.less ?_ ?_ (fun p hp => ?_) rfl rfl ?_ told
        · show ∀ (i : Nat) (y : Client), (Vbkvad.setClient w { x with waiting := false }).clients[i]? = some y → y.id = i + 1
          rw [es]
          exact ids_set h.ids e3 rfl
        · show (Vbkvad.setClient w { x with waiting := false }).clients.length = _
          rw [es, List.length_set]
        · refine h.pk p ?_
          rcases hp with hp | hp
          · exact .inl hp
          · exact .inr (List.mem_cons_of_mem _ hp)
        · show w.lives = Vbkvad.countOf (w.history ++ [.received x.id x.boot x.nonce s]) isRestarted
          rw [countOf_append, ← h.lives]
          rfl
    · rw [if_neg hq, decide_eq_false hq, if_neg Bool.false_ne_true]
      exact ⟨rfl, hsub⟩
end Tz
/-! The pure law, worlds: the force, the calm, each step. -/
namespace Tz
open Vbkvad (Packet Event Client Dater Disk Letter Party current nat Step)
theorem sent_map (life : Nat) (n : Nat) : ∀ l : List Packet, (∀ p ∈ l, Rp n p) → (l.filterMap (Vbkvad.sentEvent life)).map mev = (l.map mpk).map fun r => (⟨3, (life : Int), r.c, r.b, r.n, r.s⟩ : M6)
  | [], _ => rfl
  | p :: r, h => by
    obtain ⟨c, b, k, s, rfl, h1, h2⟩ := h p List.mem_cons_self
    have ih := sent_map life n r fun q hq => h q (List.mem_cons_of_mem _ hq)
    rw [List.map_cons, List.map_cons, ← ih]
    rfl
theorem sent_recv (life : Nat) (l : List Packet) : ∀ e ∈ l.filterMap (Vbkvad.sentEvent life), recv e = none ∧ isReceived e = false ∧ isRestarted e = false := fun e he => by
  obtain ⟨p, _, hp⟩ := List.mem_filterMap.mp he
  unfold Vbkvad.sentEvent at hp
  split at hp
  · rw [← Option.some.inj hp]
    exact ⟨rfl, rfl, rfl⟩
  · cases hp
theorem countOf_no : ∀ (l : List Event) (p : Event → Bool), (∀ e ∈ l, p e = false) → Vbkvad.countOf l p = 0 := fun l p h => by
  unfold Vbkvad.countOf
  rw [List.length_eq_zero_iff, List.filter_eq_nil_iff]
  intro e he
  rw [h e he]
  exact Bool.false_ne_true
theorem pairwise_inj : ∀ {l : List Q4}, l.Pairwise (fun x y => x.1 < y.1) → ∀ x ∈ l, ∀ y ∈ l, x.1 = y.1 → x = y
  | [], _, x, hx, _, _, _ => by cases hx
  | a :: r, h, x, hx, y, hy, e => by
    obtain ⟨h1, h2⟩ := List.pairwise_cons.mp h
    rcases List.mem_cons.mp hx with ex | hx1
    · rcases List.mem_cons.mp hy with ey | hy1
      · rw [ex, ey]
      · have := h1 y hy1
        rw [ex] at e
        omega
    · rcases List.mem_cons.mp hy with ey | hy1
      · have := h1 x hx1
        rw [ey] at e
        omega
      · exact pairwise_inj h2 x hx1 y hy1 e
theorem forced_up {w : Vbkvad.World} (hu : w.dater.up = true) : Vbkvad.forced w = Vbkvad.note (Vbkvad.put { w with dater := { w.dater with disk := Vbkvad.force w.dater.disk, outbox := [] } } w.dater.outbox) (w.dater.outbox.filterMap (Vbkvad.sentEvent w.lives)) := if_pos hu
theorem force_abs {w : Vbkvad.World} (h : Inv w []) (hu : w.dater.up = true) : abs (Vbkvad.forced w) = (abs w).force ∧ Inv (Vbkvad.forced w) [] := by
  rw [forced_up hu]
  have hs := sent_recv w.lives w.dater.outbox
  constructor
  · unfold abs MWorld.force Vbkvad.note Vbkvad.put
    have hr : (w.dater.outbox.filterMap (Vbkvad.sentEvent w.lives)).all (fun e => !isReceived e) = true := List.all_eq_true.mpr fun e he => by
      rw [(hs e he).2.1] <;> rfl
    simp only [List.map_append, map_more hr, sent_map w.lives w.clients.length w.dater.outbox h.out]
    have e1 : msv { w.dater with disk := Vbkvad.force w.dater.disk, outbox := [] } w.lives = (msv w.dater w.lives).force := by
      unfold MSrv.force msv
      simp only [mdk_force]
      rfl
    rw [e1]
    rfl
  · have hc := h.cur
    have told : ∀ x, Told (Vbkvad.note (Vbkvad.put { w with dater := { w.dater with disk := Vbkvad.force w.dater.disk, outbox := [] } } w.dater.outbox) (w.dater.outbox.filterMap (Vbkvad.sentEvent w.lives))) [] x → Told w [] x ∨ x ∈ w.dater.outbox.flatMap trip := fun x hx => by
      rcases hx with ⟨p, hp1, hp2⟩ | ⟨e, he1, he2⟩
      · rcases hp1 with hp1 | hp1
        · have hp3 : p ∈ w.net ++ w.dater.outbox := hp1
          rcases List.mem_append.mp hp3 with hp3 | hp3
          · exact .inl (.inl ⟨p, .inl hp3, hp2⟩)
          · exact .inr (List.mem_flatMap.mpr ⟨p, hp3, hp2⟩)
        · cases hp1
      · have he3 : e ∈ w.history ++ w.dater.outbox.filterMap (Vbkvad.sentEvent w.lives) := he1
        rcases List.mem_append.mp he3 with he3 | he3
        · exact .inl (.inr ⟨e, he3, he2⟩)
        · rw [(hs e he3).1] at he2
          cases he2
    have t6 := h.t6 hu
    refine ⟨h.ids, h.size, fun p hp => ?_, fun p hp => (List.not_mem_nil hp).elim, ?_, h.res, fun x hx => ?_, fun hu x hx => ?_, fun v hv => (List.not_mem_nil hv).elim, List.Pairwise.nil, fun x hx => (List.not_mem_nil hx).elim, fun _ => t6, fun x y hx hy e => ?_, fun _ => rfl⟩
    · rcases hp with hp | hp
      · have hp3 : p ∈ w.net ++ w.dater.outbox := hp
        rcases List.mem_append.mp hp3 with hp3 | hp3
        · exact h.pk p (.inl hp3)
        · exact .inr (h.out p hp3)
      · cases hp
    · show w.lives = Vbkvad.countOf (w.history ++ w.dater.outbox.filterMap (Vbkvad.sentEvent w.lives)) isRestarted
      rw [countOf_append, ← h.lives, countOf_no _ _ fun e he => (hs e he).2.2] <;> rfl
    · show x.1 < current w.dater.disk
      rcases told x hx with q | q
      · have := h.t1 x q
        omega
      · have := (h.t5 x q).1
        omega
    · show x.1 < w.dater.next
      rcases told x hx with q | q
      · exact h.t2 hu x q
      · exact (h.t5 x q).1
    · rcases told x hx with q | q
      · rcases told y hy with z | z
        · exact h.t7 x y q z e
        · have := (h.t5 y z).2 x q
          omega
      · rcases told y hy with z | z
        · have := (h.t5 x q).2 y z
          omega
        · exact pairwise_inj h.t4 x q y z e
theorem forcedIf_abs {w : Vbkvad.World} (h : Inv w []) : abs (Vbkvad.forced w) = (abs w).forcedIf ∧ Inv (Vbkvad.forced w) [] := by
  unfold MWorld.forcedIf
  have eu : (abs w).srv.up = w.dater.up := rfl
  rw [eu]
  by_cases hu : w.dater.up = true
  · rw [if_pos hu]
    exact force_abs h hu
  · rw [if_neg hu]
    have e : Vbkvad.forced w = w := if_neg hu
    rw [e]
    exact ⟨rfl, h⟩
theorem arrive_fold : ∀ (ps : List Packet) (w : Vbkvad.World), Inv w ps → abs (ps.foldl Vbkvad.arrive w) = (ps.map mpk).foldl MWorld.arrive (abs w) ∧ Inv (ps.foldl Vbkvad.arrive w) []
  | [], w, h => ⟨rfl, h⟩
  | p :: r, w, h => by
    obtain ⟨e, i⟩ := arrive_abs h
    rw [List.map_cons, List.foldl_cons, List.foldl_cons, ← e]
    exact arrive_fold r _ i
theorem calmRound_abs {w : Vbkvad.World} (h : Inv w []) : abs (Vbkvad.calmRound w) = (abs w).calmRound ∧ Inv (Vbkvad.calmRound w) [] := by
  obtain ⟨e, i⟩ := forcedIf_abs h
  have i2 : Inv { Vbkvad.forced w with net := [] } (Vbkvad.forced w).net := by
    refine i.less i.ids rfl (fun p hp => ?_) rfl rfl i.lives (told_more (l := []) (by rw [List.append_nil]) (fun e he => (List.not_mem_nil he).elim) fun p hp => ?_)
    · rcases hp with hp | hp
      · cases hp
      · exact i.pk p (.inl hp)
    · rcases hp with hp | hp
      · cases hp
      · exact .inl (.inl hp)
  obtain ⟨e2, i3⟩ := arrive_fold _ _ i2
  refine ⟨?_, i3⟩
  unfold MWorld.calmRound
  rw [← e]
  exact e2
theorem calmly_succ : ∀ (n : Nat) (m : MWorld), MWorld.calmly (n + 1) m = MWorld.calmly n m.calmRound
  | 0, m => rfl
  | n + 1, m => by
    show (MWorld.calmly (n + 1) m).calmRound = (MWorld.calmly n m.calmRound).calmRound
    rw [calmly_succ n m]
theorem calmly_abs : ∀ (n : Nat) {w : Vbkvad.World}, Inv w [] → abs (Vbkvad.calmly n w) = MWorld.calmly n (abs w) ∧ Inv (Vbkvad.calmly n w) []
  | 0, w, h => ⟨rfl, h⟩
  | n + 1, w, h => by
    obtain ⟨e, i⟩ := calmRound_abs h
    obtain ⟨e2, i2⟩ := calmly_abs n i
    refine ⟨?_, i2⟩
    rw [calmly_succ, ← e]
    exact e2
/-! ### the steps -/
theorem has_abs {w : Vbkvad.World} (h : Inv w []) {a : Int} (ha : 0 ≤ a) : (abs w).has a = (Vbkvad.clientAt w a.toNat).isSome := by
  unfold MWorld.has
  rw [abs_len]
  cases q : Vbkvad.clientAt w a.toNat with
  | none =>
    have := (at_none h _).mp q
    show (decide (1 ≤ a) && decide (a ≤ (w.clients.length : Int))) = false
    rw [← Bool.decide_and]
    exact decide_eq_false (by omega)
  | some c =>
    obtain ⟨_, e2, _, e4⟩ := h.atId q
    show (decide (1 ≤ a) && decide (a ≤ (w.clients.length : Int))) = true
    rw [← Bool.decide_and]
    exact decide_eq_true (by omega)
theorem party_abs {w : Vbkvad.World} (h : Inv w []) {a : Int} (ha : 0 ≤ a) {c : Client} (hc : Vbkvad.clientAt w a.toNat = some c) : (abs w).party a = mcl w.history c := by
  have := abs_party h hc
  rw [← this]
  congr 1
  omega
/-- a client is set -/
theorem setClient_abs {w : Vbkvad.World} (h : Inv w []) {i : Nat} {c d : Client} (hc : Vbkvad.clientAt w i = some c) (hd : d.id = c.id) : abs (Vbkvad.setClient w d) = { abs w with parties := (abs w).parties.set (i - 1) (mcl w.history d) } ∧ Inv (Vbkvad.setClient w d) [] := by
  obtain ⟨e1, e2, e3, e4⟩ := h.atId hc
  have es := h.set hc hd
  constructor
  · unfold abs
    rw [es, ← List.map_set]
    rfl
  · refine h.less ?_ ?_ (fun p hp => h.pk p hp) rfl rfl h.lives (told_more (l := []) (by rw [List.append_nil]; rfl) (fun e he => (List.not_mem_nil he).elim) fun p hp => .inl hp)
    · rw [es]
      exact ids_set h.ids e3 hd
    · rw [es, List.length_set]
theorem set_at {w : Vbkvad.World} (h : Inv w []) {i : Nat} {c d : Client} (hc : Vbkvad.clientAt w i = some c) (hd : d.id = c.id) : Vbkvad.clientAt (Vbkvad.setClient w d) i = some d := by
  obtain ⟨e1, e2, e3, e4⟩ := h.atId hc
  rw [(setClient_abs h hc hd).2.at i, if_pos e2, h.set hc hd, List.getElem?_set, if_pos rfl, if_pos (by omega)]
theorem put_abs (w : Vbkvad.World) (l : List Packet) : abs (Vbkvad.put w l) = { abs w with net := (abs w).net ++ l.map mpk } := by
  unfold abs Vbkvad.put
  simp only [List.map_append]
theorem note_abs (w : Vbkvad.World) (l : List Event) (hl : l.all (fun e => !isReceived e) = true) : abs (Vbkvad.note w l) = { abs w with trace := (abs w).trace ++ l.map mev } := by
  unfold abs Vbkvad.note
  simp only [List.map_append, map_more hl]
theorem Inv.put {w : Vbkvad.World} (h : Inv w []) {p : Packet} (hp : InFl w [] p ∨ (Rq w.clients.length p)) : Inv (Vbkvad.put w [p]) [] := by
  have hi : ∀ q, InFl (Vbkvad.put w [p]) [] q → InFl w [] q ∨ q = p := fun q hq => by
    rcases hq with hq | hq
    · have hq2 : q ∈ w.net ++ [p] := hq
      rcases List.mem_append.mp hq2 with hq2 | hq2
      · exact .inl (.inl hq2)
      · exact .inr (List.mem_singleton.mp hq2)
    · cases hq
  refine h.less h.ids rfl (fun q hq => ?_) rfl rfl h.lives (told_more (l := []) (by rw [List.append_nil]; rfl) (fun e he => (List.not_mem_nil he).elim) fun q hq => ?_)
  · rcases hi q hq with hq | rfl
    · exact h.pk q hq
    · rcases hp with hp | hp
      · exact h.pk _ hp
      · exact .inl hp
  · rcases hi q hq with hq | rfl
    · exact .inl hq
    · rcases hp with hp | hp
      · exact .inl hp
      · obtain ⟨c, b, k, rfl, _⟩ := hp
        exact .inr rfl
theorem Inv.note1 {w : Vbkvad.World} (h : Inv w []) {e : Event} (h1 : recv e = none) (h2 : isRestarted e = false) : Inv (Vbkvad.note w [e]) [] :=
  h.less h.ids rfl (fun q hq => h.pk q hq) rfl rfl (by
    show w.lives = Vbkvad.countOf (w.history ++ [e]) isRestarted
    rw [countOf_append, ← h.lives, countOf_no _ _ fun x hx => by rw [List.mem_singleton.mp hx]; exact h2] <;> rfl) (told_more rfl (fun x hx => by rw [List.mem_singleton.mp hx]; exact h1) fun q hq => .inl hq)
theorem eraseIdx_without {α : Type} (l : List α) (i : Nat) : Vbkvad.without l i = l.eraseIdx i := by
  unfold Vbkvad.without
  rw [List.eraseIdx_eq_take_drop_succ]
theorem Inv.take {w : Vbkvad.World} (h : Inv w []) {i : Nat} {p : Packet} (hp : w.net[i]? = some p) : Inv { w with net := Vbkvad.without w.net i } [p] := by
  have hi : ∀ q, InFl { w with net := Vbkvad.without w.net i } [p] q → InFl w [] q := fun q hq => by
    rcases hq with hq | hq
    · have hq2 : q ∈ w.net.take i ++ w.net.drop (i + 1) := hq
      rcases List.mem_append.mp hq2 with hq2 | hq2
      · exact .inl (List.mem_of_mem_take hq2)
      · exact .inl (List.mem_of_mem_drop hq2)
    · rw [List.mem_singleton.mp hq]
      exact .inl (List.mem_of_getElem? hp)
  exact h.less h.ids rfl (fun q hq => h.pk q (hi q hq)) rfl rfl h.lives (told_more (l := []) (by rw [List.append_nil]) (fun e he => (List.not_mem_nil he).elim) fun q hq => .inl (hi q hq))
end Tz
/-! The pure law, worlds: each step is the document's. -/
namespace Tz
open Vbkvad (Packet Event Client Dater Disk Letter Party current nat Step)
/-- a step is done, or refused -/
def Does (w : Vbkvad.World) (s : Step) (r : MWorld × List Int) (res : Vbkvad.World → Vbkvad.World → List Int) : Prop :=
  (Vbkvad.refusal w s = 0 ∧ r = (abs (Vbkvad.perform w s), res w (Vbkvad.perform w s)) ∧ Inv (Vbkvad.perform w s) [] ∧ ∃ z zs, res w (Vbkvad.perform w s) = z :: zs ∧ 0 ≤ z) ∨ (Vbkvad.refusal w s < 0 ∧ r = (abs w, [Vbkvad.refusal w s]))
theorem Does.yes {w : Vbkvad.World} {s : Step} {r : MWorld × List Int} {res : Vbkvad.World → Vbkvad.World → List Int} (v : Vbkvad.World) (hv : Vbkvad.perform w s = v) (h1 : Vbkvad.refusal w s = 0) (h2 : r = (abs v, res w v)) (h3 : Inv v []) (h4 : ∃ z zs, res w v = z :: zs ∧ 0 ≤ z) : Does w s r res := by
  subst hv
  exact .inl ⟨h1, h2, h3, h4⟩
theorem Does.no {w : Vbkvad.World} {s : Step} {r : MWorld × List Int} {res : Vbkvad.World → Vbkvad.World → List Int} (z : Int) (h1 : Vbkvad.refusal w s = z) (hz : z < 0) (h2 : r = (abs w, [z])) : Does w s r res := .inr ⟨by omega, by rw [h1]; exact h2⟩
section
variable {w : Vbkvad.World} {a : Int} {m : MWorld}
theorem ch2 : m.change 2 a = m.ask 2 a := if_pos (.inl rfl)
theorem ch3 : m.change 3 a = m.ask 3 a := if_pos (.inr rfl)
theorem ch4 : m.change 4 a = m.moveMessage 4 a := (if_neg (by decide)).trans (if_pos (.inl rfl))
theorem ch5 : m.change 5 a = m.moveMessage 5 a := (if_neg (by decide)).trans (if_pos (.inr (.inl rfl)))
theorem ch6 : m.change 6 a = m.moveMessage 6 a := (if_neg (by decide)).trans (if_pos (.inr (.inr rfl)))
theorem ch7 : m.change 7 a = m.turnService 7 a := (if_neg (by decide)).trans ((if_neg (by decide)).trans (if_pos (.inl rfl)))
theorem ch8 : m.change 8 a = m.turnService 8 a := (if_neg (by decide)).trans ((if_neg (by decide)).trans (if_pos (.inr (.inl rfl))))
theorem ch9 : m.change 9 a = m.turnService 9 a := (if_neg (by decide)).trans ((if_neg (by decide)).trans (if_pos (.inr (.inr rfl))))
theorem ch10 : m.change 10 a = m.turnClient 10 a := (if_neg (by decide)).trans ((if_neg (by decide)).trans ((if_neg (by decide)).trans (if_pos (.inl rfl))))
theorem ch11 : m.change 11 a = m.turnClient 11 a := (if_neg (by decide)).trans ((if_neg (by decide)).trans ((if_neg (by decide)).trans (if_pos (.inr rfl))))
theorem ch12 : m.change 12 a = m.calm a := (if_neg (by decide)).trans ((if_neg (by decide)).trans ((if_neg (by decide)).trans (if_neg (by decide))))
theorem party_set {ps : List MParty} {p : MParty} {rv : Int} {sv : MSrv} {net : List M5} {tr : List M6} (h : (a - 1).toNat < ps.length) : (⟨rv, sv, ps.set (a - 1).toNat p, net, tr⟩ : MWorld).party a = p := by
  unfold MWorld.party
  simp only
  rw [List.getElem?_set, if_pos rfl, if_pos h]
  rfl
theorem do_request (h : Inv w []) (ha : 0 ≤ a) : Does w (.request a.toNat) ((abs w).change 2 a) fun _ v => Vbkvad.bootAndNonce v a.toNat := by
  rw [ch2]
  have hh := has_abs h ha
  cases q : Vbkvad.clientAt w a.toNat with
  | none =>
    rw [q] at hh
    replace hh : (abs w).has a = false := hh
    refine .no (-3) ?_ (by decide) ?_
    · unfold Vbkvad.refusal
      simp only [q]
    · unfold MWorld.ask
      rw [if_pos hh]
  | some c =>
    rw [q] at hh
    replace hh : (abs w).has a = true := hh
    have hp := party_abs h ha q
    obtain ⟨e1, e2, e3, e4⟩ := h.atId q
    have hne : ¬ (abs w).has a = false := by rw [hh]; decide
    cases hu : c.up with
    | false =>
      refine .no (-4) ?_ (by decide) ?_
      · unfold Vbkvad.refusal
        simp only [q, hu, if_true]
      · unfold MWorld.ask
        rw [if_neg hne, if_pos (by rw [hp]; exact hu)]
    | true =>
      cases hw : c.waiting with
      | true =>
        refine .no (-5) ?_ (by decide) ?_
        · unfold Vbkvad.refusal
          simp only [q, hu, hw, if_true]
          rfl
        · unfold MWorld.ask
          rw [if_neg hne, if_neg (by rw [hp]; show ¬ c.up = false; rw [hu]; decide), if_pos rfl, if_pos (by rw [hp]; exact hw)]
      | false =>
        have es := setClient_abs h q (d := { c with nonce := c.nonce + 1, waiting := true }) rfl
        have ea := set_at h q (d := { c with nonce := c.nonce + 1, waiting := true }) rfl
        refine .yes (Vbkvad.note (Vbkvad.put (Vbkvad.setClient w { c with nonce := c.nonce + 1, waiting := true }) [Vbkvad.askLetter { c with nonce := c.nonce + 1, waiting := true }]) [.requested c.id c.boot (c.nonce + 1)]) ?_ ?_ ?_ ?_ ?_
        · unfold Vbkvad.perform
          simp only [q]
        · unfold Vbkvad.refusal
          simp only [q, hu, hw]
          rfl
        · have ebn : Vbkvad.bootAndNonce (Vbkvad.note (Vbkvad.put (Vbkvad.setClient w { c with nonce := c.nonce + 1, waiting := true }) [Vbkvad.askLetter { c with nonce := c.nonce + 1, waiting := true }]) [.requested c.id c.boot (c.nonce + 1)]) a.toNat = [(c.boot : Int), ((c.nonce + 1 : Nat) : Int)] := by
            unfold Vbkvad.bootAndNonce
            have : Vbkvad.clientAt (Vbkvad.note (Vbkvad.put (Vbkvad.setClient w { c with nonce := c.nonce + 1, waiting := true }) [Vbkvad.askLetter { c with nonce := c.nonce + 1, waiting := true }]) [.requested c.id c.boot (c.nonce + 1)]) a.toNat = some { c with nonce := c.nonce + 1, waiting := true } := ea
            rw [this] <;> rfl
          rw [ebn, note_abs _ _ rfl, put_abs, es.1]
          unfold MWorld.ask
          rw [if_neg hne, if_neg (by rw [hp]; show ¬ c.up = false; rw [hu]; decide), if_pos rfl, if_neg (by rw [hp]; show ¬ c.waiting = true; rw [hw]; decide)]
          have eidx : a.toNat - 1 = (a - 1).toNat := by omega
          have hlt : (a - 1).toNat < (abs w).parties.length := by
            rw [abs_len]
            omega
          have ecl : (c.id : Int) = a := by omega
          unfold MWorld.makeRequest MWorld.makeAns MWorld.sendRequest MWorld.sendAns MWorld.asked
          simp only [party_set hlt, hp, eidx]
          unfold Vbkvad.askLetter mpk mev Vbkvad.partyClient
          simp only [List.map_cons, List.map_nil, nat_eq, ecl]
          rfl
        · refine ((es.2.put (.inr ?_)).note1 rfl rfl)
          refine ⟨c.id, c.boot, c.nonce + 1, rfl, by omega, ?_⟩
          have := (setClient_abs h q (d := { c with nonce := c.nonce + 1, waiting := true }) rfl).2
          have el : (Vbkvad.setClient w { c with nonce := c.nonce + 1, waiting := true }).clients.length = w.clients.length := by
            rw [h.set (d := { c with nonce := c.nonce + 1, waiting := true }) q rfl, List.length_set]
          rw [el]
          omega
        · unfold Vbkvad.bootAndNonce
          have : Vbkvad.clientAt (Vbkvad.note (Vbkvad.put (Vbkvad.setClient w { c with nonce := c.nonce + 1, waiting := true }) [Vbkvad.askLetter { c with nonce := c.nonce + 1, waiting := true }]) [.requested c.id c.boot (c.nonce + 1)]) a.toNat = some { c with nonce := c.nonce + 1, waiting := true } := ea
          rw [this]
          exact ⟨_, _, rfl, Int.natCast_nonneg _⟩
theorem do_again (h : Inv w []) (ha : 0 ≤ a) : Does w (.again a.toNat) ((abs w).change 3 a) fun _ v => Vbkvad.bootAndNonce v a.toNat := by
  rw [ch3]
  have hh := has_abs h ha
  cases q : Vbkvad.clientAt w a.toNat with
  | none =>
    rw [q] at hh
    replace hh : (abs w).has a = false := hh
    refine .no (-3) ?_ (by decide) ?_
    · unfold Vbkvad.refusal
      simp only [q]
    · unfold MWorld.ask
      rw [if_pos hh]
  | some c =>
    rw [q] at hh
    replace hh : (abs w).has a = true := hh
    have hp := party_abs h ha q
    obtain ⟨e1, e2, e3, e4⟩ := h.atId q
    have hne : ¬ (abs w).has a = false := by rw [hh]; decide
    cases hu : c.up with
    | false =>
      refine .no (-4) ?_ (by decide) ?_
      · unfold Vbkvad.refusal
        simp only [q, hu, if_true]
      · unfold MWorld.ask
        rw [if_neg hne, if_pos (by rw [hp]; exact hu)]
    | true =>
      cases hw : c.waiting with
      | false =>
        refine .no (-5) ?_ (by decide) ?_
        · unfold Vbkvad.refusal
          simp only [q, hu, hw, if_true]
          rfl
        · unfold MWorld.ask
          rw [if_neg hne, if_neg (by rw [hp]; show ¬ c.up = false; rw [hu]; decide), if_neg (by decide), if_pos (by rw [hp]; exact hw)]
      | true =>
        have ebn : Vbkvad.bootAndNonce (Vbkvad.put w [Vbkvad.askLetter c]) a.toNat = [(c.boot : Int), (c.nonce : Int)] := by
          unfold Vbkvad.bootAndNonce
          have : Vbkvad.clientAt (Vbkvad.put w [Vbkvad.askLetter c]) a.toNat = some c := q
          rw [this] <;> rfl
        refine .yes (Vbkvad.put w [Vbkvad.askLetter c]) ?_ ?_ ?_ ?_ ?_
        · unfold Vbkvad.perform
          simp only [q]
        · unfold Vbkvad.refusal
          simp only [q, hu, hw]
          rfl
        · rw [ebn, put_abs]
          unfold MWorld.ask
          rw [if_neg hne, if_neg (by rw [hp]; show ¬ c.up = false; rw [hu]; decide), if_neg (by decide), if_neg (by rw [hp]; show ¬ c.waiting = false; rw [hw]; decide)]
          have ecl : (c.id : Int) = a := by omega
          unfold MWorld.sendRequest MWorld.sendAns
          simp only [hp]
          unfold Vbkvad.askLetter mpk Vbkvad.partyClient
          simp only [List.map_cons, List.map_nil, nat_eq, ecl]
          rfl
        · exact h.put (.inr ⟨c.id, c.boot, c.nonce, rfl, by omega, by omega⟩)
        · rw [ebn]
          exact ⟨_, _, rfl, Int.natCast_nonneg _⟩
theorem net_abs (w : Vbkvad.World) (i : Nat) : (abs w).net[i]? = (w.net[i]?).map mpk := List.getElem?_map
theorem net_len (w : Vbkvad.World) : ((abs w).net.length : Int) = (w.net.length : Int) := by
  unfold abs
  rw [List.length_map]
theorem took_abs (w : Vbkvad.World) (i : Nat) : (abs w).took i = abs { w with net := Vbkvad.without w.net i } := by
  unfold MWorld.took abs
  rw [eraseIdx_without]
  have e : ∀ (l : List Packet) (i : Nat), (l.map mpk).eraseIdx i = (l.eraseIdx i).map mpk := by
    intro l
    induction l with
    | nil => exact fun _ => rfl
    | cons p r ih =>
      intro i
      cases i with
      | zero => rfl
      | succ i =>
        show mpk p :: (r.map mpk).eraseIdx i = mpk p :: (r.eraseIdx i).map mpk
        rw [ih]
  simp only [e]
/-- what a message does -/
theorem effect_abs (h : Inv w []) {i : Nat} {p : Packet} (hp : w.net[i]? = some p) : Vbkvad.effect w i = (abs w).arriveAns (mpk p) := by
  have hk := h.pk p (.inl (List.mem_of_getElem? hp))
  unfold Vbkvad.effect
  rw [hp]
  rcases hk with ⟨c, b, k, rfl, h1, h2⟩ | ⟨c, b, k, s, rfl, h1, h2⟩
  · show (if w.dater.up = true then [1, nat w.dater.next] else [0, 0]) = if (abs w).srv.up = true then [1, (abs w).srv.next] else [0, 0]
    rfl
  · obtain ⟨x, hx⟩ := at_some h h1 h2
    have ep : (abs w).party (c : Int) = mcl w.history x := abs_party h hx
    show (match (Vbkvad.clientAt w c).bind fun x => Vbkvad.acceptedBy x (.number b k s) with
      | none => [0, 0]
      | some n => [2, nat n]) = if ((abs w).party (c : Int)).accepts (b : Int) (k : Int) = true then [2, (s : Int)] else [0, 0]
    rw [ep, hx]
    have eacc : (mcl w.history x).accepts (b : Int) (k : Int) = decide (x.up = true ∧ x.waiting = true ∧ b = x.boot ∧ k = x.nonce) := by
      unfold MParty.accepts mcl
      simp only
      have d1 : decide ((x.boot : Int) = (b : Int)) = decide (b = x.boot) := decide_eq_decide.mpr (by omega)
      have d2 : decide ((x.nonce : Int) = (k : Int)) = decide (k = x.nonce) := decide_eq_decide.mpr (by omega)
      rw [d1, d2]
      simp only [Bool.decide_and, Bool.decide_eq_true]
    rw [eacc]
    show (match (if x.up = true ∧ x.waiting = true ∧ b = x.boot ∧ k = x.nonce then some s else none) with
      | none => [0, 0]
      | some n => [2, nat n]) = _
    by_cases hq : x.up = true ∧ x.waiting = true ∧ b = x.boot ∧ k = x.nonce
    · rw [if_pos hq, decide_eq_true hq] <;> rfl
    · rw [if_neg hq, decide_eq_false hq] <;> rfl
theorem ans_took (m : MWorld) (i : Nat) (e : M5) : (m.took i).arriveAns e = m.arriveAns e := rfl
theorem ans_nonneg (h : Inv w []) {i : Nat} {p : Packet} (hp : w.net[i]? = some p) : ∃ z zs, (abs w).arriveAns (mpk p) = z :: zs ∧ 0 ≤ z := by
  unfold MWorld.arriveAns MWorld.arriveRequestAns MWorld.arriveReplyAns
  split
  · split
    · exact ⟨_, _, rfl, by decide⟩
    · exact ⟨_, _, rfl, by decide⟩
  · split
    · exact ⟨_, _, rfl, by decide⟩
    · exact ⟨_, _, rfl, by decide⟩
theorem net_get (ha : 0 ≤ a) (h : ¬ (w.net.length : Int) ≤ a) : ∃ p, w.net[a.toNat]? = some p := by
  have : a.toNat < w.net.length := by omega
  exact ⟨_, List.getElem?_eq_getElem this⟩
theorem do_deliver (h : Inv w []) (ha : 0 ≤ a) : Does w (.deliver a.toNat) ((abs w).change 4 a) fun w _ => Vbkvad.effect w a.toNat := by
  rw [ch4]
  unfold MWorld.moveMessage
  rw [net_len]
  by_cases hle : (w.net.length : Int) ≤ a
  · rw [if_pos hle]
    refine .no (-3) ?_ (by decide) rfl
    unfold Vbkvad.refusal
    simp only
    rw [if_neg (by omega)]
  · rw [if_neg hle]
    obtain ⟨p, hp⟩ := net_get ha hle
    obtain ⟨e1, i1⟩ := arrive_abs (h.take hp)
    refine .yes (Vbkvad.arrive { w with net := Vbkvad.without w.net a.toNat } p) ?_ ?_ ?_ i1 ?_
    · unfold Vbkvad.perform
      simp only [hp]
    · unfold Vbkvad.refusal
      simp only
      rw [if_pos (by omega)]
    · simp only [net_abs, hp, if_true]
      rw [effect_abs h hp, e1, ← took_abs]
      rfl
    · rw [effect_abs h hp]
      exact ans_nonneg h hp
theorem do_drop (h : Inv w []) (ha : 0 ≤ a) : Does w (.drop a.toNat) ((abs w).change 5 a) fun _ v => [nat v.net.length] := by
  rw [ch5]
  unfold MWorld.moveMessage
  rw [net_len]
  by_cases hle : (w.net.length : Int) ≤ a
  · rw [if_pos hle]
    refine .no (-3) ?_ (by decide) rfl
    unfold Vbkvad.refusal
    simp only
    rw [if_neg (by omega)]
  · rw [if_neg hle]
    obtain ⟨p, hp⟩ := net_get ha hle
    refine .yes { w with net := Vbkvad.without w.net a.toNat } rfl ?_ ?_ ((h.take hp).sub (fun q hq => (List.not_mem_nil hq).elim)) ⟨_, _, rfl, Int.natCast_nonneg _⟩
    · unfold Vbkvad.refusal
      simp only
      rw [if_pos (by omega)]
    · show (if (5 : Int) = 4 then _ else if (5 : Int) = 5 then _ else _) = _
      rw [if_neg (by decide), if_pos rfl, took_abs, net_len]
      rfl
theorem do_double (h : Inv w []) (ha : 0 ≤ a) : Does w (.double a.toNat) ((abs w).change 6 a) fun _ v => [nat v.net.length] := by
  rw [ch6]
  unfold MWorld.moveMessage
  rw [net_len]
  by_cases hle : (w.net.length : Int) ≤ a
  · rw [if_pos hle]
    refine .no (-3) ?_ (by decide) rfl
    unfold Vbkvad.refusal
    simp only
    rw [if_neg (by omega)]
  · rw [if_neg hle]
    obtain ⟨p, hp⟩ := net_get ha hle
    refine .yes (Vbkvad.put w [p]) ?_ ?_ ?_ (h.put (.inl (.inl (List.mem_of_getElem? hp)))) ⟨_, _, rfl, Int.natCast_nonneg _⟩
    · unfold Vbkvad.perform
      simp only [hp]
    · unfold Vbkvad.refusal
      simp only
      rw [if_pos (by omega)]
    · simp only [net_abs, hp]
      rw [if_neg (by decide), if_neg (by decide)]
      have e : abs (Vbkvad.put w [p]) = { abs w with net := (abs w).net ++ [mpk p] } := put_abs w [p]
      have el : nat (Vbkvad.put w [p]).net.length = (((abs w).net ++ [mpk p]).length : Int) := by
        rw [nat_eq]
        unfold Vbkvad.put abs
        simp
      rw [e, el]
      rfl
theorem do_force (h : Inv w []) : Does w .force ((abs w).change 7 a) fun w _ => [nat w.dater.outbox.length] := by
  rw [ch7]
  unfold MWorld.turnService
  rw [if_neg (by decide)]
  have eu : (abs w).srv.up = w.dater.up := rfl
  rw [eu]
  cases hu : w.dater.up with
  | false =>
    rw [if_pos rfl]
    refine .no (-4) ?_ (by decide) rfl
    unfold Vbkvad.refusal
    simp only [hu]
    rfl
  | true =>
    rw [if_neg (by decide), if_pos rfl]
    obtain ⟨e, i⟩ := force_abs h hu
    refine .yes (Vbkvad.forced w) rfl ?_ ?_ i ⟨_, _, rfl, Int.natCast_nonneg _⟩
    · unfold Vbkvad.refusal
      simp only [hu, if_true]
    · rw [e]
      have : ((abs w).srv.outbox.length : Int) = nat w.dater.outbox.length := by
        unfold abs msv
        rw [List.length_map, nat_eq]
      rw [this]
theorem cut_mem (d : Disk Nat) (k : Nat) : current (Vbkvad.cutDisk d k) = d.forced ∨ current (Vbkvad.cutDisk d k) ∈ d.later := by
  unfold Vbkvad.cutDisk current
  simp only [List.getLast?_nil, Option.getD_none]
  cases q : (d.later.take k).getLast? with
  | none => exact .inl rfl
  | some v => exact .inr (List.mem_of_mem_take (List.mem_of_getLast? q))
theorem do_crash (h : Inv w []) (ha : 0 ≤ a) : Does w (.crash a.toNat) ((abs w).change 8 a) fun _ v => [nat (current v.dater.disk)] := by
  rw [ch8]
  unfold MWorld.turnService
  rw [if_neg (by decide)]
  have eu : (abs w).srv.up = w.dater.up := rfl
  rw [eu]
  cases hu : w.dater.up with
  | false =>
    rw [if_pos rfl]
    refine .no (-4) ?_ (by decide) rfl
    unfold Vbkvad.refusal
    simp only [hu]
    rfl
  | true =>
    rw [if_neg (by decide), if_neg (by decide)]
    have ed : (abs w).srv.disk.crash a = mdk (Vbkvad.cutDisk w.dater.disk a.toNat) := (mdk_crash w.dater.disk a ha).symm
    have hm := cut_mem w.dater.disk a.toNat
    have hge : w.dater.disk.forced ≤ current (Vbkvad.cutDisk w.dater.disk a.toNat) := by
      rcases hm with hm | hm
      · omega
      · exact h.t3 _ hm
    refine .yes (Vbkvad.note { w with dater := { w.dater with up := false, disk := Vbkvad.cutDisk w.dater.disk a.toNat, outbox := [] } } [.crashed w.lives (current (Vbkvad.cutDisk w.dater.disk a.toNat))]) rfl ?_ ?_ ?_ ⟨_, _, rfl, Int.natCast_nonneg _⟩
    · unfold Vbkvad.refusal
      simp only [hu, if_true]
    · rw [note_abs _ _ rfl]
      unfold MWorld.crashService MSrv.crash MSrv.crashRow
      rw [ed, mdk_current]
      rfl
    · have ht : ∀ x, Told (Vbkvad.note { w with dater := { w.dater with up := false, disk := Vbkvad.cutDisk w.dater.disk a.toNat, outbox := [] } } [.crashed w.lives (current (Vbkvad.cutDisk w.dater.disk a.toNat))]) [] x → Told w [] x :=
        told_more rfl (fun e he => by rw [List.mem_singleton.mp he] <;> rfl) fun p hp => .inl hp
      refine ⟨h.ids, h.size, h.pk, fun p hp => (List.not_mem_nil hp).elim, ?_, h.res, fun x hx => ?_, fun hu => (Bool.false_ne_true hu).elim, fun v hv => (List.not_mem_nil hv).elim, List.Pairwise.nil, fun x hx => (List.not_mem_nil hx).elim, fun hu => (Bool.false_ne_true hu).elim, fun x y hx hy => h.t7 x y (ht x hx) (ht y hy), fun _ => rfl⟩
      · show w.lives = Vbkvad.countOf (w.history ++ [_]) isRestarted
        rw [countOf_append, ← h.lives]
        rfl
      · have h1 := h.t1 x (ht x hx)
        have h2 : (Vbkvad.cutDisk w.dater.disk a.toNat).forced = current (Vbkvad.cutDisk w.dater.disk a.toNat) := rfl
        show x.1 < (Vbkvad.cutDisk w.dater.disk a.toNat).forced
        omega
theorem do_restart (h : Inv w []) : Does w .restart ((abs w).change 9 a) fun _ v => [nat v.dater.next] := by
  rw [ch9]
  unfold MWorld.turnService
  rw [if_pos rfl]
  have eu : (abs w).srv.up = w.dater.up := rfl
  rw [eu]
  cases hu : w.dater.up with
  | true =>
    rw [if_pos rfl]
    refine .no (-4) ?_ (by decide) rfl
    unfold Vbkvad.refusal
    simp only [hu, if_true]
  | false =>
    rw [if_neg (by decide)]
    have ec : (abs w).srv.disk.current = ((current w.dater.disk : Nat) : Int) := mdk_current w.dater.disk
    refine .yes (Vbkvad.note { w with dater := { w.dater with up := true, next := current w.dater.disk }, lives := w.lives + 1 } [.restarted (w.lives + 1) (current w.dater.disk)]) rfl ?_ ?_ ?_ ⟨_, _, rfl, Int.natCast_nonneg _⟩
    · unfold Vbkvad.refusal
      simp only [hu]
      rfl
    · rw [note_abs _ _ rfl]
      unfold MWorld.restartService MSrv.restart MSrv.restartRow
      rw [ec]
      rfl
    · have hc := h.cur
      have ht : ∀ x, Told (Vbkvad.note { w with dater := { w.dater with up := true, next := current w.dater.disk }, lives := w.lives + 1 } [.restarted (w.lives + 1) (current w.dater.disk)]) [] x → Told w [] x :=
        told_more rfl (fun e he => by rw [List.mem_singleton.mp he] <;> rfl) fun p hp => .inl hp
      have ho := h.t8 hu
      refine ⟨h.ids, h.size, h.pk, h.out, ?_, h.res, fun x hx => h.t1 x (ht x hx), fun _ x hx => ?_, h.t3, h.t4, fun x hx => ?_, fun _ => Nat.le_refl _, fun x y hx hy => h.t7 x y (ht x hx) (ht y hy), fun hd => absurd (show true = false from hd) (by decide)⟩
      · show w.lives + 1 = Vbkvad.countOf (w.history ++ [_]) isRestarted
        rw [countOf_append, ← h.lives]
        rfl
      · have h1 := h.t1 x (ht x hx)
        show x.1 < current w.dater.disk
        omega
      · have hx2 : x ∈ w.dater.outbox.flatMap trip := hx
        rw [ho] at hx2
        cases hx2
theorem do_crashClient (h : Inv w []) (ha : 0 ≤ a) : Does w (.crashClient a.toNat) ((abs w).change 10 a) fun _ v => Vbkvad.bootOnly v a.toNat := by
  rw [ch10]
  have hh := has_abs h ha
  unfold MWorld.turnClient
  cases q : Vbkvad.clientAt w a.toNat with
  | none =>
    rw [q] at hh
    replace hh : (abs w).has a = false := hh
    refine .no (-3) ?_ (by decide) (if_pos hh)
    unfold Vbkvad.refusal
    simp only [q]
  | some c =>
    rw [q] at hh
    replace hh : (abs w).has a = true := hh
    have hp := party_abs h ha q
    obtain ⟨e1, e2, e3, e4⟩ := h.atId q
    rw [if_neg (by rw [hh]; decide), if_pos rfl, hp]
    cases hu : c.up with
    | false =>
      refine .no (-4) ?_ (by decide) (if_pos hu)
      unfold Vbkvad.refusal
      simp only [q, hu]
      rfl
    | true =>
      rw [if_neg (by show ¬ c.up = false; rw [hu]; decide)]
      have es := setClient_abs h q (d := { c with up := false, waiting := false }) rfl
      have ea := set_at h q (d := { c with up := false, waiting := false }) rfl
      have eb : Vbkvad.bootOnly (Vbkvad.setClient w { c with up := false, waiting := false }) a.toNat = [(c.boot : Int)] := by
        unfold Vbkvad.bootOnly
        rw [ea] <;> rfl
      refine .yes (Vbkvad.setClient w { c with up := false, waiting := false }) ?_ ?_ ?_ es.2 ?_
      · unfold Vbkvad.perform
        simp only [q]
      · unfold Vbkvad.refusal
        simp only [q, hu, if_true]
      · have eidx : a.toNat - 1 = (a - 1).toNat := by omega
        rw [eb, es.1, eidx]
        rfl
      · rw [eb]
        exact ⟨_, _, rfl, Int.natCast_nonneg _⟩
theorem do_restartClient (h : Inv w []) (ha : 0 ≤ a) : Does w (.restartClient a.toNat) ((abs w).change 11 a) fun _ v => Vbkvad.bootOnly v a.toNat := by
  rw [ch11]
  have hh := has_abs h ha
  unfold MWorld.turnClient
  cases q : Vbkvad.clientAt w a.toNat with
  | none =>
    rw [q] at hh
    replace hh : (abs w).has a = false := hh
    refine .no (-3) ?_ (by decide) (if_pos hh)
    unfold Vbkvad.refusal
    simp only [q]
  | some c =>
    rw [q] at hh
    replace hh : (abs w).has a = true := hh
    have hp := party_abs h ha q
    obtain ⟨e1, e2, e3, e4⟩ := h.atId q
    rw [if_neg (by rw [hh]; decide), if_neg (by decide), hp]
    cases hu : c.up with
    | true =>
      refine .no (-4) ?_ (by decide) (if_pos hu)
      unfold Vbkvad.refusal
      simp only [q, hu, if_true]
    | false =>
      rw [if_neg (by show ¬ c.up = true; rw [hu]; decide)]
      have es := setClient_abs h q (d := { c with up := true, boot := c.boot + 1, nonce := 0 }) rfl
      have ea := set_at h q (d := { c with up := true, boot := c.boot + 1, nonce := 0 }) rfl
      have eb : Vbkvad.bootOnly (Vbkvad.setClient w { c with up := true, boot := c.boot + 1, nonce := 0 }) a.toNat = [((c.boot + 1 : Nat) : Int)] := by
        unfold Vbkvad.bootOnly
        rw [ea] <;> rfl
      refine .yes (Vbkvad.setClient w { c with up := true, boot := c.boot + 1, nonce := 0 }) ?_ ?_ ?_ es.2 ?_
      · unfold Vbkvad.perform
        simp only [q]
      · unfold Vbkvad.refusal
        simp only [q, hu]
        rfl
      · have eidx : a.toNat - 1 = (a - 1).toNat := by omega
        rw [eb, es.1, eidx]
        rfl
      · rw [eb]
        exact ⟨_, _, rfl, Int.natCast_nonneg _⟩
theorem do_calm (h : Inv w []) (ha : 0 ≤ a) : Does w (.calm a.toNat) ((abs w).change 12 a) fun _ v => [nat v.net.length] := by
  rw [ch12]
  obtain ⟨e, i⟩ := calmly_abs a.toNat h
  refine .yes (Vbkvad.calmly a.toNat w) rfl rfl ?_ i ⟨_, _, rfl, Int.natCast_nonneg _⟩
  unfold MWorld.calm
  rw [← e, net_len]
  rfl
end
/-- the steps by number -/
def stepZ (op a : Int) : Step :=
  if op = 2 then .request a.toNat else if op = 3 then .again a.toNat else if op = 4 then .deliver a.toNat else if op = 5 then .drop a.toNat else if op = 6 then .double a.toNat
  else if op = 7 then .force else if op = 8 then .crash a.toNat else if op = 9 then .restart else if op = 10 then .crashClient a.toNat else if op = 11 then .restartClient a.toNat else .calm a.toNat
def resZ (s : Step) (w v : Vbkvad.World) : List Int := match s with
  | .request c | .again c => Vbkvad.bootAndNonce v c
  | .deliver i => Vbkvad.effect w i
  | .drop _ | .double _ | .calm _ => [nat v.net.length]
  | .force => [nat w.dater.outbox.length]
  | .crash _ => [nat (current v.dater.disk)]
  | .restart => [nat v.dater.next]
  | .crashClient c | .restartClient c => Vbkvad.bootOnly v c
theorem do_step {w : Vbkvad.World} (h : Inv w []) {op a : Int} (ha : 0 ≤ a) (h2 : 2 ≤ op) (h12 : op ≤ 12) : Does w (stepZ op a) ((abs w).change op a) (resZ (stepZ op a)) := by
  have hop : op = 2 ∨ op = 3 ∨ op = 4 ∨ op = 5 ∨ op = 6 ∨ op = 7 ∨ op = 8 ∨ op = 9 ∨ op = 10 ∨ op = 11 ∨ op = 12 := by omega
  rcases hop with rfl | rfl | rfl | rfl | rfl | rfl | rfl | rfl | rfl | rfl | rfl
  · exact do_request h ha
  · exact do_again h ha
  · exact do_deliver h ha
  · exact do_drop h ha
  · exact do_double h ha
  · exact do_force h
  · exact do_crash h ha
  · exact do_restart h
  · exact do_crashClient h ha
  · exact do_restartClient h ha
  · exact do_calm h ha
end Tz
/-! The pure law, worlds: lists of steps, looks. -/
namespace Tz
open Vbkvad (Packet Event Client Dater Disk Letter Party current nat Step)
/-! ### lists of steps -/
theorem stepOf_eq (c a : Int) : Vbkvad.stepOf c a = if isStep (c + 2) a = true then some (stepZ (c + 2) a) else none := by
  unfold Vbkvad.stepOf isStep
  by_cases ha : a < 0
  · rw [if_pos ha, show (if c + 2 < 2 ∨ 12 < c + 2 ∨ a < 0 then false else if c + 2 = 7 ∨ c + 2 = 9 then decide (a = 0) else if c + 2 = 12 then decide (a ≤ 20) else true) = false from if_pos (.inr (.inr ha))]
    rfl
  · rw [if_neg ha]
    by_cases hc : c < 0 ∨ 10 < c
    · rw [if_pos (show c + 2 < 2 ∨ 12 < c + 2 ∨ a < 0 by omega)]
      rw [if_neg (by omega), if_neg (by omega), if_neg (by omega), if_neg (by omega), if_neg (by omega), if_neg (by omega), if_neg (by omega), if_neg (by omega), if_neg (by omega), if_neg (by omega), if_neg (by omega)]
      rfl
    · rw [if_neg (show ¬ (c + 2 < 2 ∨ 12 < c + 2 ∨ a < 0) by omega)]
      have hcs : c = 0 ∨ c = 1 ∨ c = 2 ∨ c = 3 ∨ c = 4 ∨ c = 5 ∨ c = 6 ∨ c = 7 ∨ c = 8 ∨ c = 9 ∨ c = 10 := by omega
      rcases hcs with rfl | rfl | rfl | rfl | rfl | rfl | rfl | rfl | rfl | rfl | rfl
      · rfl
      · rfl
      · rfl
      · rfl
      · rfl
      · by_cases h0 : a = 0
        · subst h0
          rfl
        · show (if a = 0 then some Step.force else none) = if decide (a = 0) = true then _ else none
          rw [if_neg h0, decide_eq_false h0]
          rfl
      · rfl
      · by_cases h0 : a = 0
        · subst h0
          rfl
        · show (if a = 0 then some Step.restart else none) = if decide (a = 0) = true then _ else none
          rw [if_neg h0, decide_eq_false h0]
          rfl
      · rfl
      · rfl
      · by_cases h0 : a ≤ 20
        · show (if a ≤ Vbkvad.CALM then some (Step.calm a.toNat) else none) = if decide (a ≤ 20) = true then some (Step.calm a.toNat) else none
          rw [if_pos (show a ≤ Vbkvad.CALM from h0), decide_eq_true h0]
          rfl
        · show (if a ≤ Vbkvad.CALM then some (Step.calm a.toNat) else none) = if decide (a ≤ 20) = true then some (Step.calm a.toNat) else none
          rw [if_neg (show ¬ a ≤ Vbkvad.CALM from h0), decide_eq_false h0]
          rfl
def zOf (p : Int × Int) : Step := stepZ p.1 p.2
theorem decodeSteps_eq : ∀ l : List Int, Vbkvad.decodeSteps l = if (decide (l.length % 2 = 0) && (pairsOf l).all fun p => isStep p.1 p.2) = true then some ((pairsOf l).map zOf) else none
  | [] => rfl
  | [x] => rfl
  | c :: a :: r => by
    have ih := decodeSteps_eq r
    have e : Vbkvad.decodeSteps (c :: a :: r) = match Vbkvad.stepOf c a with
      | none => none
      | some s => (Vbkvad.decodeSteps r).map fun t => s :: t := rfl
    have el : (c :: a :: r).length % 2 = r.length % 2 := by
      simp only [List.length_cons]
      omega
    have ep : pairsOf (c :: a :: r) = (c + 2, a) :: pairsOf r := rfl
    rw [e, el, ep, List.all_cons, ih, stepOf_eq]
    cases hs : isStep (c + 2) a with
    | false => simp
    | true =>
      simp only [if_true, Bool.true_and]
      split
      · rfl
      · rfl
theorem isStepList_eq (l : List Int) : isStepList l = (decide (l.length ≤ 1400) && (decide (l.length % 2 = 0) && (pairsOf l).all fun p => isStep p.1 p.2)) := by
  unfold isStepList
  rw [← Bool.and_assoc, ← Bool.and_assoc, Bool.and_comm (decide (l.length % 2 = 0)) (decide (l.length ≤ 1400))]
def countOn (x : Vbkvad.World × Nat × Nat) (s : Step) : Vbkvad.World × Nat × Nat := if Vbkvad.refusal x.1 s = 0 then (Vbkvad.perform x.1 s, x.2.1 + 1, x.2.2) else (x.1, x.2.1, x.2.2 + 1)
theorem isStep_range {op a : Int} (h : isStep op a = true) : 0 ≤ a ∧ 2 ≤ op ∧ op ≤ 12 := by
  unfold isStep at h
  split at h
  · cases h
  · omega
theorem steps_abs : ∀ (ps : List (Int × Int)) (w : Vbkvad.World) (d r : Nat), Inv w [] → (∀ p ∈ ps, isStep p.1 p.2 = true) →
    ps.foldl stepOn (abs w, (d : Int), (r : Int)) = (abs ((ps.map zOf).foldl countOn (w, d, r)).1, (((ps.map zOf).foldl countOn (w, d, r)).2.1 : Int), (((ps.map zOf).foldl countOn (w, d, r)).2.2 : Int)) ∧ Inv ((ps.map zOf).foldl countOn (w, d, r)).1 []
  | [], w, d, r, h, _ => ⟨rfl, h⟩
  | p :: ps, w, d, r, h, hall => by
    obtain ⟨q1, q2, q3⟩ := isStep_range (hall p List.mem_cons_self)
    rw [List.foldl_cons, List.map_cons, List.foldl_cons]
    rcases do_step h (op := p.1) (a := p.2) q1 q2 q3 with ⟨h1, h2, h3, z, zs, h4, h5⟩ | ⟨h1, h2⟩
    · have e1 : stepOn (abs w, (d : Int), (r : Int)) p = (abs (Vbkvad.perform w (zOf p)), ((d + 1 : Nat) : Int), (r : Int)) := by
        unfold stepOn
        simp only [h2, h4, List.headD_cons]
        rw [if_neg (by omega)]
        rfl
      have e2 : countOn (w, d, r) (zOf p) = (Vbkvad.perform w (zOf p), d + 1, r) := by
        unfold countOn
        exact if_pos h1
      rw [e1, e2]
      exact steps_abs ps _ _ _ h3 fun x hx => hall x (List.mem_cons_of_mem _ hx)
    · have e1 : stepOn (abs w, (d : Int), (r : Int)) p = (abs w, (d : Int), ((r + 1 : Nat) : Int)) := by
        unfold stepOn
        simp only [h2, List.headD_cons]
        rw [if_pos h1]
        rfl
      have e2 : countOn (w, d, r) (zOf p) = (w, d, r + 1) := by
        unfold countOn
        exact if_neg (show ¬ Vbkvad.refusal w (zOf p) = 0 from fun z => by
          have h1' : Vbkvad.refusal w (zOf p) < 0 := h1
          omega)
      rw [e1, e2]
      exact steps_abs ps _ _ _ h fun x hx => hall x (List.mem_cons_of_mem _ hx)
/-! ### looks -/
theorem drop_take_len (rows : List (List Int)) (first : Int) (h : 0 ≤ first) : Tz.page rows first = Vbkvad.page first rows := by
  unfold Tz.page Vbkvad.page
  have h50 : Vbkvad.PAGE = 50 := rfl
  rw [h50]
  have el : ((rows.drop first.toNat).take 50).length = min 50 (rows.length - first.toNat) := by
    rw [List.length_take, List.length_drop]
  simp only [nat_eq, el]
  have es : (if first < (rows.length : Int) then (if (rows.length : Int) - first < 50 then (rows.length : Int) - first else 50) else 0) = ((min 50 (rows.length - first.toNat) : Nat) : Int) := by
    split
    · split
      · omega
      · omega
    · omega
  rw [es]
  have et : (rows.drop first.toNat).take (min 50 (rows.length - first.toNat)) = (rows.drop first.toNat).take 50 := by
    by_cases q : rows.length - first.toNat ≤ 50
    · rw [Nat.min_eq_right q, List.take_of_length_le (by rw [List.length_drop]; exact Nat.le_refl _), List.take_of_length_le (by rw [List.length_drop]; exact q)]
    · rw [Nat.min_eq_left (by omega)]
  rw [Int.toNat_natCast, et]
  rfl
theorem row_cast (b : Bool) : truth b = if b = true then (1 : Int) else 0 := rfl
theorem service_abs (w : Vbkvad.World) : (abs w).serviceAns = Vbkvad.serviceRow w := by
  unfold MWorld.serviceAns Vbkvad.serviceRow
  have e1 : (abs w).srv.disk.current = ((current w.dater.disk : Nat) : Int) := mdk_current w.dater.disk
  have e2 : ((abs w).srv.outbox.length : Int) = nat w.dater.outbox.length := by
    unfold abs msv
    rw [List.length_map, nat_eq]
  have e3 : ((abs w).parties.length : Int) = nat w.clients.length := by
    rw [abs_len, nat_eq]
  rw [e1, e2, e3]
  rfl
theorem client_abs {w : Vbkvad.World} (h : Inv w []) {a : Int} (ha : 0 ≤ a) : (abs w).clientAns a = Vbkvad.clientRow w a.toNat := by
  unfold MWorld.clientAns Vbkvad.clientRow
  rw [abs_len]
  cases q : Vbkvad.clientAt w a.toNat with
  | none =>
    have := (at_none h _).mp q
    rw [if_pos (by omega)]
  | some c =>
    obtain ⟨e1, e2, e3, e4⟩ := h.atId q
    rw [if_neg (by omega)]
    have hp := party_abs h ha q
    simp only [hp]
    unfold MParty.last mcl
    rw [e1]
    simp only [castL, List.length_map, List.getLast?_map, nat_eq]
    rw [getD_cast]
    rfl
theorem history_abs : ∀ l : List Event, ((l.map mev).filterMap histOf).map M5.row = (Vbkvad.observed l).map Vbkvad.seenRow
  | [] => rfl
  | e :: r => by
    have ih := history_abs r
    have eo : Vbkvad.observed (e :: r) = match Vbkvad.seenOf e with
      | none => Vbkvad.observed r
      | some x => x :: Vbkvad.observed r := by
      unfold Vbkvad.observed
      rw [List.filterMap_cons]
      cases Vbkvad.seenOf e <;> rfl
    rw [eo, List.map_cons, List.filterMap_cons]
    cases e with
    | requested c b k =>
      show M5.row _ :: _ = Vbkvad.seenRow _ :: _
      rw [ih]
      rfl
    | received c b k n =>
      show M5.row _ :: _ = Vbkvad.seenRow _ :: _
      rw [ih]
      rfl
    | _ => exact ih
theorem restart_abs (w : Vbkvad.World) : (abs w).restartValues = nat (Vbkvad.restartValues w).length :: (Vbkvad.restartValues w).map nat := by
  unfold MWorld.restartValues
  have e : (abs w).srv.disk.held = (Vbkvad.restartValues w).map nat := rfl
  rw [e, List.length_map, nat_eq]
/-! ### the order -/
def m4 (x : Q4) : M4 := ⟨(x.1 : Int), (x.2.1 : Int), (x.2.2.1 : Int), (x.2.2.2 : Int)⟩
theorem turned_abs : ∀ l : List Event, (l.map mev).filterMap turnedOf = (l.filterMap recv).map m4
  | [] => rfl
  | e :: r => by
    have ih := turned_abs r
    rw [List.map_cons, List.filterMap_cons, List.filterMap_cons]
    cases e with
    | received c b k n =>
      show m4 (n, c, b, k) :: _ = m4 (n, c, b, k) :: _
      rw [ih]
    | _ => exact ih
def ins4 (x : Q4) : List Q4 → List Q4
  | [] => [x]
  | y :: l => if x.1 < y.1 then x :: y :: l else y :: ins4 x l
def row4 (x : Q4) : Nat × List Int := (x.1, [nat x.2.1, nat x.2.2.1, nat x.2.2.2, nat x.1])
theorem ins4_put (x : Q4) : ∀ l : List Q4, Vbkvad.putReceipt (row4 x) (l.map row4) = (ins4 x l).map row4
  | [] => rfl
  | y :: l => by
    unfold ins4
    show (if x.1 < y.1 then row4 x :: row4 y :: l.map row4 else row4 y :: Vbkvad.putReceipt (row4 x) (l.map row4)) = _
    split
    · rfl
    · rw [ins4_put x l]
      rfl
theorem fold4 : ∀ (xs l : List Q4), (xs.map row4).foldl (fun l x => Vbkvad.putReceipt x l) (l.map row4) = (xs.foldl (fun l x => ins4 x l) l).map row4
  | [], l => rfl
  | x :: xs, l => by
    rw [List.map_cons, List.foldl_cons, List.foldl_cons, ins4_put]
    exact fold4 xs _
theorem spec_rows : ∀ l : List Event, (l.filterMap fun e => match e with
    | .received c b k n => some (n, [nat c, nat b, nat k, nat n])
    | _ => none) = (l.filterMap recv).map row4
  | [] => rfl
  | e :: r => by
    have ih := spec_rows r
    rw [List.filterMap_cons, List.filterMap_cons]
    cases e with
    | received c b k n =>
      show (n, [nat c, nat b, nat k, nat n]) :: _ = row4 (n, c, b, k) :: _
      rw [ih]
      rfl
    | _ => exact ih
theorem ins4_perm (x : Q4) : ∀ l : List Q4, (ins4 x l).Perm (x :: l)
  | [] => .refl _
  | y :: l => by
    unfold ins4
    split
    · exact .refl _
    · exact ((ins4_perm x l).cons y).trans (.swap x y l)
theorem fold4_perm : ∀ (xs l : List Q4), (xs.foldl (fun l x => ins4 x l) l).Perm (xs ++ l)
  | [], l => .refl _
  | x :: xs, l => by
    rw [List.foldl_cons]
    refine (fold4_perm xs (ins4 x l)).trans ?_
    refine ((ins4_perm x l).append_left xs).trans ?_
    exact List.perm_middle
theorem ins4_sorted (x : Q4) : ∀ l : List Q4, l.Pairwise (fun a b => a.1 ≤ b.1) → (ins4 x l).Pairwise fun a b => a.1 ≤ b.1
  | [], _ => List.pairwise_singleton _ _
  | y :: l, h => by
    obtain ⟨h1, h2⟩ := List.pairwise_cons.mp h
    unfold ins4
    split
    · rename_i hlt
      refine List.pairwise_cons.mpr ⟨fun z hz => ?_, h⟩
      rcases List.mem_cons.mp hz with rfl | hz
      · omega
      · have := h1 z hz
        omega
    · rename_i hlt
      refine List.pairwise_cons.mpr ⟨fun z hz => ?_, ins4_sorted x l h2⟩
      rcases List.mem_cons.mp ((ins4_perm x l).mem_iff.mp hz) with rfl | hz
      · omega
      · exact h1 z hz
theorem fold4_sorted : ∀ (xs l : List Q4), l.Pairwise (fun a b => a.1 ≤ b.1) → (xs.foldl (fun l x => ins4 x l) l).Pairwise fun a b => a.1 ≤ b.1
  | [], l, h => h
  | x :: xs, l, h => fold4_sorted xs _ (ins4_sorted x l h)
theorem le4_iff (x y : M4) : M4.le x y = true ↔ x.s < y.s ∨ (x.s = y.s ∧ (x.c < y.c ∨ (x.c = y.c ∧ (x.b < y.b ∨ (x.b = y.b ∧ x.n ≤ y.n))))) := by
  unfold M4.le
  simp only [Bool.or_eq_true, Bool.and_eq_true, decide_eq_true_eq]
theorem le4_trans (x y z : M4) (h1 : M4.le x y = true) (h2 : M4.le y z = true) : M4.le x z = true := by
  rw [le4_iff] at *
  omega
theorem le4_total (x y : M4) : (M4.le x y || M4.le y x) = true := by
  rw [Bool.or_eq_true, le4_iff, le4_iff]
  omega
theorem le4_anti (x y : M4) (h1 : M4.le x y = true) (h2 : M4.le y x = true) : x = y := by
  rw [le4_iff] at *
  obtain ⟨a, b, c, d⟩ := x
  obtain ⟨a', b', c', d'⟩ := y
  simp only at h1 h2
  have e1 : a = a' := by omega
  have e2 : b = b' := by omega
  have e3 : c = c' := by omega
  have e4 : d = d' := by omega
  rw [e1, e2, e3, e4]
theorem order_abs {w : Vbkvad.World} (h : Inv w []) : (abs w).order.map M4.row = Vbkvad.orderRows w.history := by
  have inj : ∀ x ∈ w.history.filterMap recv, ∀ y ∈ w.history.filterMap recv, x.1 = y.1 → x = y := fun x hx y hy e => by
    obtain ⟨ex, h1, h2⟩ := List.mem_filterMap.mp hx
    obtain ⟨ey, h3, h4⟩ := List.mem_filterMap.mp hy
    exact h.t7 x y (.inr ⟨ex, h1, h2⟩) (.inr ⟨ey, h3, h4⟩) e
  have eo : (abs w).order = ((w.history.filterMap recv).map m4).mergeSort M4.le := by
    unfold MWorld.order
    have : (abs w).trace = w.history.map mev := rfl
    rw [this, turned_abs]
  have es : Vbkvad.orderRows w.history = (((w.history.filterMap recv).foldl (fun l x => ins4 x l) []).map row4).map fun x => x.2 := by
    have := fold4 (w.history.filterMap recv) []
    rw [List.map_nil] at this
    rw [← this]
    exact congrArg (fun q : List (Nat × List Int) => (q.foldl (fun l x => Vbkvad.putReceipt x l) []).map fun x => x.2) (spec_rows w.history)
  rw [eo, es]
  generalize w.history.filterMap recv = qs at *
  have perm := fold4_perm qs []
  rw [List.append_nil] at perm
  have key : (qs.map m4).mergeSort M4.le = (qs.foldl (fun l x => ins4 x l) []).map m4 := by
    refine List.Perm.eq_of_pairwise (le := fun a b => M4.le a b = true) (fun a b _ _ => le4_anti a b) (List.pairwise_mergeSort le4_trans le4_total _) ?_ ((List.mergeSort_perm _ _).trans (perm.map m4).symm)
    rw [List.pairwise_map]
    have hs := fold4_sorted qs [] List.Pairwise.nil
    refine List.Pairwise.imp_of_mem (fun {a b} ha hb hab => ?_) hs
    have ha2 := perm.mem_iff.mp ha
    have hb2 := perm.mem_iff.mp hb
    rw [le4_iff]
    by_cases q : a.1 = b.1
    · have := inj a ha2 b hb2 q
      subst this
      right
      refine ⟨rfl, .inr ⟨rfl, .inr ⟨rfl, Int.le_refl _⟩⟩⟩
    · left
      show (a.1 : Int) < (b.1 : Int)
      omega
  rw [key, List.map_map, List.map_map]
  rfl
end Tz
/-! The pure law: statistics; the calls over the four worlds but for the judge and the scheduler. -/
namespace Tz
open Vbkvad (Packet Event Client Dater Disk Letter Party current nat Step)
theorem countOf_cons (e : Event) (r : List Event) (p : Event → Bool) : Vbkvad.countOf (e :: r) p = (if p e = true then 1 else 0) + Vbkvad.countOf r p := by
  unfold Vbkvad.countOf
  rw [List.filter_cons]
  cases p e with
  | true =>
    rw [if_pos rfl, if_pos rfl, List.length_cons]
    omega
  | false =>
    rw [if_neg Bool.false_ne_true, if_neg Bool.false_ne_true]
    omega
theorem sent_cons (e : Event) (r : List Event) : Vbkvad.sentNumbers (e :: r) = (match e with
    | .sent _ _ _ _ n => [n]
    | _ => []) ++ Vbkvad.sentNumbers r := by
  unfold Vbkvad.sentNumbers
  rw [List.filterMap_cons]
  cases e <;> rfl
def sevens (c0 c1 c2 c3 c4 c5 c6 : Nat) : List Int := [(c0 : Int), (c1 : Int), (c2 : Int), (c3 : Int), (c4 : Int), (c5 : Int), (c6 : Int)]
theorem max_cast (h n : Nat) : (if (h : Int) < (n : Int) then (n : Int) else (h : Int)) = ((max h n : Nat) : Int) := by
  split <;> omega
theorem stat_fold : ∀ (l : List Event) (c0 c1 c2 c3 c4 c5 c6 hi : Nat), (l.map mev).foldl statOn (sevens c0 c1 c2 c3 c4 c5 c6, (hi : Int)) =
    (sevens (c0 + Vbkvad.countOf l Vbkvad.isRequested) (c1 + Vbkvad.countOf l Vbkvad.isWrote) (c2 + Vbkvad.countOf l Vbkvad.isMade) (c3 + (Vbkvad.sentNumbers l).length) (c4 + Vbkvad.countOf l Vbkvad.isReceived) (c5 + Vbkvad.countOf l Vbkvad.isCrashed) (c6 + Vbkvad.countOf l isRestarted), (((Vbkvad.sentNumbers l).foldl max hi : Nat) : Int))
  | [], c0, c1, c2, c3, c4, c5, c6, hi => rfl
  | e :: r, c0, c1, c2, c3, c4, c5, c6, hi => by
    rw [List.map_cons, List.foldl_cons]
    simp only [countOf_cons, sent_cons]
    cases e with
    | requested c b k =>
      have e1 : statOn (sevens c0 c1 c2 c3 c4 c5 c6, (hi : Int)) (mev (.requested c b k)) = (sevens (c0 + 1) c1 c2 c3 c4 c5 c6, (hi : Int)) := rfl
      rw [e1, stat_fold r]
      simp [Vbkvad.isRequested, Vbkvad.isWrote, Vbkvad.isMade, Vbkvad.isReceived, Vbkvad.isCrashed, isRestarted, Nat.add_assoc]
    | wrote l n =>
      have e1 : statOn (sevens c0 c1 c2 c3 c4 c5 c6, (hi : Int)) (mev (.wrote l n)) = (sevens c0 (c1 + 1) c2 c3 c4 c5 c6, (hi : Int)) := rfl
      rw [e1, stat_fold r]
      simp [Vbkvad.isRequested, Vbkvad.isWrote, Vbkvad.isMade, Vbkvad.isReceived, Vbkvad.isCrashed, isRestarted, Nat.add_assoc]
    | made l c b k n =>
      have e1 : statOn (sevens c0 c1 c2 c3 c4 c5 c6, (hi : Int)) (mev (.made l c b k n)) = (sevens c0 c1 (c2 + 1) c3 c4 c5 c6, (hi : Int)) := rfl
      rw [e1, stat_fold r]
      simp [Vbkvad.isRequested, Vbkvad.isWrote, Vbkvad.isMade, Vbkvad.isReceived, Vbkvad.isCrashed, isRestarted, Nat.add_assoc]
    | sent l c b k n =>
      have e1 : statOn (sevens c0 c1 c2 c3 c4 c5 c6, (hi : Int)) (mev (.sent l c b k n)) = (sevens c0 c1 c2 (c3 + 1) c4 c5 c6, if (hi : Int) < (n : Int) then (n : Int) else (hi : Int)) := rfl
      rw [e1, max_cast, stat_fold r]
      simp [Vbkvad.isRequested, Vbkvad.isWrote, Vbkvad.isMade, Vbkvad.isReceived, Vbkvad.isCrashed, isRestarted, Nat.add_assoc, Nat.add_comm, Nat.add_left_comm]
    | received c b k n =>
      have e1 : statOn (sevens c0 c1 c2 c3 c4 c5 c6, (hi : Int)) (mev (.received c b k n)) = (sevens c0 c1 c2 c3 (c4 + 1) c5 c6, (hi : Int)) := rfl
      rw [e1, stat_fold r]
      simp [Vbkvad.isRequested, Vbkvad.isWrote, Vbkvad.isMade, Vbkvad.isReceived, Vbkvad.isCrashed, isRestarted, Nat.add_assoc]
    | crashed l n =>
      have e1 : statOn (sevens c0 c1 c2 c3 c4 c5 c6, (hi : Int)) (mev (.crashed l n)) = (sevens c0 c1 c2 c3 c4 (c5 + 1) c6, (hi : Int)) := rfl
      rw [e1, stat_fold r]
      simp [Vbkvad.isRequested, Vbkvad.isWrote, Vbkvad.isMade, Vbkvad.isReceived, Vbkvad.isCrashed, isRestarted, Nat.add_assoc]
    | restarted l n =>
      have e1 : statOn (sevens c0 c1 c2 c3 c4 c5 c6, (hi : Int)) (mev (.restarted l n)) = (sevens c0 c1 c2 c3 c4 c5 (c6 + 1), (hi : Int)) := rfl
      rw [e1, stat_fold r]
      simp [Vbkvad.isRequested, Vbkvad.isWrote, Vbkvad.isMade, Vbkvad.isReceived, Vbkvad.isCrashed, isRestarted, Nat.add_assoc]
theorem stat_abs {w : Vbkvad.World} (h : Inv w []) : (abs w).statistics = Vbkvad.statisticsRow w := by
  have e : (abs w).trace.foldl statOn (List.replicate 7 0, 0) = (sevens (0 + Vbkvad.countOf w.history Vbkvad.isRequested) (0 + Vbkvad.countOf w.history Vbkvad.isWrote) (0 + Vbkvad.countOf w.history Vbkvad.isMade) (0 + (Vbkvad.sentNumbers w.history).length) (0 + Vbkvad.countOf w.history Vbkvad.isReceived) (0 + Vbkvad.countOf w.history Vbkvad.isCrashed) (0 + Vbkvad.countOf w.history isRestarted), (((Vbkvad.sentNumbers w.history).foldl max 0 : Nat) : Int)) :=
    stat_fold w.history 0 0 0 0 0 0 0 0
  unfold MWorld.statistics Vbkvad.statisticsRow
  simp only [e, Nat.zero_add, ← h.lives]
  rfl
end Tz
/-! The pure law: the calls over the four worlds. -/
namespace Tz
open Vbkvad (Packet Event Client Dater Disk Letter Party current nat Step)
def absS (s : Vbkvad.State) : MState := s.worlds.map (Option.map abs)
structure SInv (s : Vbkvad.State) : Prop where
  len : s.worlds.length = 4
  ok : ∀ (i : Nat) (w : Vbkvad.World), s.worlds[i]? = some (some w) → Inv w []
theorem SInv.start : SInv Vbkvad.start := ⟨rfl, fun i w h => by
  match i, h with
  | 0, h | 1, h | 2, h | 3, h => cases h
  | i + 4, h => cases h⟩
theorem isPlace_eq (n : Int) : isPlace n = Vbkvad.isWorld n := rfl
theorem stAt_abs (s : Vbkvad.State) (i : Int) : stAt (absS s) i = (Vbkvad.worldAt s i.toNat).map abs := by
  unfold stAt absS Vbkvad.worldAt
  rw [List.getElem?_map, List.getD_eq_getElem?_getD]
  cases s.worlds[i.toNat]? with
  | none => rfl
  | some o => rfl
theorem worldAt_get {s : Vbkvad.State} {i : Nat} {w : Vbkvad.World} (h : Vbkvad.worldAt s i = some w) : s.worlds[i]? = some (some w) := by
  unfold Vbkvad.worldAt at h
  rw [List.getD_eq_getElem?_getD] at h
  cases q : s.worlds[i]? with
  | none =>
    rw [q] at h
    cases h
  | some o =>
    rw [q] at h
    have : o = some w := h
    rw [this]
theorem SInv.at {s : Vbkvad.State} (h : SInv s) {i : Nat} {w : Vbkvad.World} (hw : Vbkvad.worldAt s i = some w) : Inv w [] := h.ok i w (worldAt_get hw)
theorem SInv.set {s : Vbkvad.State} (h : SInv s) (i : Nat) {w : Vbkvad.World} (hw : Inv w []) : SInv (Vbkvad.setWorld s i w) := by
  refine ⟨?_, fun j v hv => ?_⟩
  · show (s.worlds.set i (some w)).length = 4
    rw [List.length_set]
    exact h.len
  · have hv2 : (s.worlds.set i (some w))[j]? = some (some v) := hv
    rw [List.getElem?_set] at hv2
    split at hv2
    · split at hv2
      · have : w = v := Option.some.inj (Option.some.inj hv2)
        rw [← this]
        exact hw
      · cases hv2
    · exact h.ok j v hv2
theorem absS_set (s : Vbkvad.State) (i : Nat) (w : Vbkvad.World) : absS (Vbkvad.setWorld s i w) = (absS s).set i (some (abs w)) := by
  unfold absS Vbkvad.setWorld
  rw [List.map_set]
  rfl
theorem absS_same {s : Vbkvad.State} {i : Nat} {w : Vbkvad.World} (hw : Vbkvad.worldAt s i = some w) : (absS s).set i (some (abs w)) = absS s := by
  have h := worldAt_get hw
  refine List.ext_getElem? fun j => ?_
  rw [List.getElem?_set]
  by_cases e : i = j
  · subst e
    rw [if_pos rfl]
    have hl : i < (absS s).length := by
      unfold absS
      rw [List.length_map]
      exact (List.getElem?_eq_some_iff.mp h).1
    rw [if_pos hl]
    unfold absS
    rw [List.getElem?_map, h]
    rfl
  · rw [if_neg e]
theorem step_exec {s : Vbkvad.State} (h : SInv s) {op at' a : Int} (row : List Int) (h2 : 2 ≤ op) (h12 : op ≤ 12) (hc : op = 12 → a ≤ 20) :
    inWorld (absS s) op at' a row = (absS (Vbkvad.doStep s at' a (stepZ op a) (resZ (stepZ op a))).1, (Vbkvad.doStep s at' a (stepZ op a) (resZ (stepZ op a))).2) ∧ SInv (Vbkvad.doStep s at' a (stepZ op a) (resZ (stepZ op a))).1 := by
  unfold inWorld Vbkvad.doStep Vbkvad.withWorld
  rw [isPlace_eq]
  have hs : isSecondOut op a = true ↔ a < 0 := by
    unfold isSecondOut
    rw [Bool.or_eq_true, Bool.and_eq_true, decide_eq_true_eq, decide_eq_true_eq, decide_eq_true_eq]
    constructor
    · rintro (q | ⟨q1, q2⟩)
      · exact q
      · have := hc q1
        omega
    · exact .inl
  by_cases hbad : Vbkvad.isWorld at' = false ∨ a < 0
  · rw [if_pos hbad, if_pos (hbad.imp id hs.mpr)]
    exact ⟨rfl, h⟩
  · rw [if_neg hbad, if_neg (fun q => hbad (q.imp id hs.mp)), stAt_abs]
    have ha : 0 ≤ a := by omega
    cases hw : Vbkvad.worldAt s at'.toNat with
    | none => exact ⟨rfl, h⟩
    | some w =>
      have hi := h.at hw
      simp only [Option.map_some]
      rw [if_pos (show op < 13 by omega)]
      rcases do_step hi ha h2 h12 with ⟨q1, q2, q3, z, zs, q4, q5⟩ | ⟨q1, q2⟩
      · rw [if_pos q1, q2]
        exact ⟨by rw [absS_set], h.set _ q3⟩
      · rw [if_neg (by omega), q2]
        exact ⟨by rw [absS_same hw], h⟩
theorem look_exec {s : Vbkvad.State} (h : SInv s) {op at' a : Int} (row : List Int) (hop : 14 ≤ op) (f : Vbkvad.World → List Int) (hf : 0 ≤ a → ∀ w, Inv w [] → (abs w).look op a = f w) :
    inWorld (absS s) op at' a row = (absS (Vbkvad.look s at' a f).1, (Vbkvad.look s at' a f).2) ∧ SInv (Vbkvad.look s at' a f).1 := by
  unfold inWorld Vbkvad.look Vbkvad.withWorld
  rw [isPlace_eq]
  have hs : isSecondOut op a = true ↔ a < 0 := by
    unfold isSecondOut
    rw [Bool.or_eq_true, Bool.and_eq_true, decide_eq_true_eq, decide_eq_true_eq, decide_eq_true_eq]
    constructor
    · rintro (q | ⟨q1, q2⟩)
      · exact q
      · omega
    · exact .inl
  by_cases hbad : Vbkvad.isWorld at' = false ∨ a < 0
  · rw [if_pos hbad, if_pos (hbad.imp id hs.mpr)]
    exact ⟨rfl, h⟩
  · rw [if_neg hbad, if_neg (fun q => hbad (q.imp id hs.mp)), stAt_abs]
    cases hw : Vbkvad.worldAt s at'.toNat with
    | none => exact ⟨rfl, h⟩
    | some w =>
      have hi := h.at hw
      simp only [Option.map_some]
      rw [if_neg (by omega), if_neg (by omega), hf (by omega) w hi]
      exact ⟨rfl, h⟩
theorem pages_abs (ls : List Packet) : (ls.map mpk).map M5.row = ls.map Vbkvad.packetRow := by
  rw [List.map_map]
  exact List.map_congr_left fun p _ => mpk_row p
theorem lk_service {w : Vbkvad.World} (a : Int) : (abs w).look 14 a = Vbkvad.serviceRow w := service_abs w
theorem lk_client {w : Vbkvad.World} (h : Inv w []) {a : Int} (ha : 0 ≤ a) : (abs w).look 15 a = Vbkvad.clientRow w a.toNat := client_abs h ha
theorem lk_net {w : Vbkvad.World} {a : Int} (ha : 0 ≤ a) : (abs w).look 16 a = Vbkvad.page a (w.net.map Vbkvad.packetRow) := by
  rw [← drop_take_len _ _ ha, ← pages_abs]
  rfl
theorem lk_out {w : Vbkvad.World} {a : Int} (ha : 0 ≤ a) : (abs w).look 17 a = Vbkvad.page a (w.dater.outbox.map Vbkvad.packetRow) := by
  rw [← drop_take_len _ _ ha, ← pages_abs]
  rfl
theorem lk_trace {w : Vbkvad.World} {a : Int} (ha : 0 ≤ a) : (abs w).look 18 a = Vbkvad.page a (w.history.map Vbkvad.eventRow) := by
  have e : w.history.map Vbkvad.eventRow = (w.history.map mev).map M6.row := by
    rw [List.map_map]
    exact (List.map_congr_left fun p _ => mev_row p).symm
  rw [← drop_take_len _ _ ha, e]
  rfl
theorem lk_history {w : Vbkvad.World} {a : Int} (ha : 0 ≤ a) : (abs w).look 19 a = Vbkvad.page a ((Vbkvad.observed w.history).map Vbkvad.seenRow) := by
  rw [← drop_take_len _ _ ha, ← history_abs]
  rfl
theorem lk_order {w : Vbkvad.World} (h : Inv w []) {a : Int} (ha : 0 ≤ a) : (abs w).look 20 a = Vbkvad.page a (Vbkvad.orderRows w.history) := by
  rw [← drop_take_len _ _ ha, ← order_abs h]
  rfl
theorem lk_stat {w : Vbkvad.World} (h : Inv w []) (a : Int) : (abs w).look 21 a = Vbkvad.statisticsRow w := stat_abs h
theorem lk_values {w : Vbkvad.World} (a : Int) : (abs w).look 22 a = nat (Vbkvad.restartValues w).length :: (Vbkvad.restartValues w).map nat := restart_abs w
/-! ### open, copy, steps -/
theorem open_exec {s : Vbkvad.State} (h : SInv s) (at' rv many : Int) : openWorld (absS s) at' rv many = (absS (Vbkvad.execute s (.openWorld at' rv many)).1, (Vbkvad.execute s (.openWorld at' rv many)).2) ∧ SInv (Vbkvad.execute s (.openWorld at' rv many)).1 := by
  unfold openWorld Vbkvad.execute
  simp only
  rw [isPlace_eq]
  have hcl : Vbkvad.CLIENTS = 8 := rfl
  rw [hcl]
  by_cases h1 : Vbkvad.isWorld at' = false ∨ rv < 1 ∨ 20 < rv
  · rw [if_pos h1, if_pos (by rcases h1 with q | q | q <;> simp [q])]
    exact ⟨rfl, h⟩
  · rw [if_neg h1]
    by_cases h2 : many < 1 ∨ 8 < many
    · rw [if_pos h2, if_pos (.inr (.inr (.inr h2)))]
      exact ⟨rfl, h⟩
    · rw [if_neg h2, if_neg (fun q => by
        rcases q with q | q | q | q
        · exact h1 (.inl q)
        · exact h1 (.inr (.inl q))
        · exact h1 (.inr (.inr q))
        · exact h2 q)]
      refine ⟨?_, h.set _ (Inv.fresh _ _ (by omega) (by omega))⟩
      rw [absS_set]
      have e : MWorld.fresh rv many = abs (Vbkvad.openWorld rv.toNat many.toNat) := by
        unfold MWorld.fresh abs Vbkvad.openWorld
        have er : ((rv.toNat : Nat) : Int) = rv := by omega
        have ep : ((List.range many.toNat).map fun (i : Nat) => (⟨i + 1, true, 0, 0, false⟩ : Client)).map (mcl []) = List.replicate many.toNat MParty.fresh := by
          rw [List.map_map]
          refine List.eq_replicate_iff.mpr ⟨by rw [List.length_map, List.length_range], fun b hb => ?_⟩
          obtain ⟨i, _, rfl⟩ := List.mem_map.mp hb
          rfl
        simp only [ep, er]
        rfl
      rw [e]
theorem copy_exec {s : Vbkvad.State} (h : SInv s) (s1 t1 : Int) : copyWorld (absS s) s1 t1 = (absS (Vbkvad.execute s (.copyWorld s1 t1)).1, (Vbkvad.execute s (.copyWorld s1 t1)).2) ∧ SInv (Vbkvad.execute s (.copyWorld s1 t1)).1 := by
  unfold copyWorld Vbkvad.execute
  simp only
  rw [isPlace_eq, isPlace_eq]
  by_cases h1 : Vbkvad.isWorld s1 = false ∨ Vbkvad.isWorld t1 = false
  · rw [if_pos h1, if_pos h1]
    exact ⟨rfl, h⟩
  · rw [if_neg h1, if_neg h1, stAt_abs]
    cases hw : Vbkvad.worldAt s s1.toNat with
    | none => exact ⟨rfl, h⟩
    | some w =>
      refine ⟨?_, h.set _ (h.at hw)⟩
      show _ = (absS (Vbkvad.setWorld s t1.toNat w), _)
      rw [absS_set]
      rfl
theorem run_exec {s : Vbkvad.State} (h : SInv s) (at' : Int) (row : List Int) : inWorld (absS s) 13 at' 0 row = (absS (Vbkvad.execute s (.runSteps at' row)).1, (Vbkvad.execute s (.runSteps at' row)).2) ∧ SInv (Vbkvad.execute s (.runSteps at' row)).1 := by
  unfold inWorld Vbkvad.execute Vbkvad.withWorld
  simp only
  rw [isPlace_eq]
  have hs : ¬ isSecondOut 13 0 = true := by decide
  by_cases hbad : Vbkvad.isWorld at' = false
  · rw [if_pos (.inl hbad), if_pos (.inl hbad)]
    exact ⟨rfl, h⟩
  · rw [if_neg (fun q => q.elim hbad hs), if_neg (fun q => q.elim hbad (by decide)), stAt_abs]
    cases hw : Vbkvad.worldAt s at'.toNat with
    | none => exact ⟨rfl, h⟩
    | some w =>
      have hi := h.at hw
      simp only [Option.map_some]
      rw [if_neg (by decide), if_pos trivial]
      have hst : Vbkvad.STEP_INTEGERS = 1400 := rfl
      rw [hst]
      unfold MWorld.runSteps
      rw [isStepList_eq]
      by_cases hl : 1400 < row.length
      · rw [if_pos hl, decide_eq_false (by omega), Bool.false_and, if_pos rfl]
        exact ⟨by rw [absS_same hw], h⟩
      · rw [if_neg hl, decide_eq_true (by omega), Bool.true_and, decodeSteps_eq]
        cases hd : (decide (row.length % 2 = 0) && (pairsOf row).all fun p => isStep p.1 p.2) with
        | false =>
          rw [if_pos rfl, if_neg Bool.false_ne_true]
          exact ⟨by rw [absS_same hw], h⟩
        | true =>
          rw [if_neg (by decide), if_pos rfl]
          rw [Bool.and_eq_true] at hd
          have hall := List.all_eq_true.mp hd.2
          obtain ⟨e, i⟩ := steps_abs (pairsOf row) w 0 0 hi hall
          have e0 : (pairsOf row).foldl stepOn (abs w, 0, 0) = (abs (((pairsOf row).map zOf).foldl countOn (w, 0, 0)).1, ((((pairsOf row).map zOf).foldl countOn (w, 0, 0)).2.1 : Int), ((((pairsOf row).map zOf).foldl countOn (w, 0, 0)).2.2 : Int)) := e
          rw [e0]
          have ec : Vbkvad.runCounting w ((pairsOf row).map zOf) = ((pairsOf row).map zOf).foldl countOn (w, 0, 0) := rfl
          simp only [ec]
          exact ⟨by rw [absS_set] <;> rfl, h.set _ i⟩
end Tz
/-! The pure law: lists of events, the judge. -/
namespace Tz
open Vbkvad (Seen Judged Latest nat)
def sM : Seen → M5
  | .request c b k => ⟨0, (c : Int), (b : Int), (k : Int), 0⟩
  | .receipt c b k n => ⟨1, (c : Int), (b : Int), (k : Int), (n : Int)⟩
def toS (e : M5) : Seen := if e.k = 0 then .request e.c.toNat e.b.toNat e.n.toNat else .receipt e.c.toNat e.b.toNat e.n.toNat e.s.toNat
theorem isEvent_iff (k c b n s : Int) : isEvent k c b n s = true ↔ (k = 0 ∨ k = 1) ∧ (1 ≤ c ∧ c ≤ 8) ∧ (0 ≤ b ∧ b ≤ 1000000000) ∧ (0 ≤ n ∧ n ≤ 1000000000) ∧ (0 ≤ s ∧ s ≤ 1000000000) ∧ (k = 1 ∨ s = 0) := by
  unfold isEvent
  split
  · constructor
    · intro h
      cases h
    · omega
  · split
    · constructor
      · intro h
        cases h
      · omega
    · split
      · constructor
        · intro h
          cases h
        · omega
      · rw [Bool.or_eq_true, decide_eq_true_eq, decide_eq_true_eq]
        omega
theorem seenOfRow_eq (k c b n s : Int) : Vbkvad.seenOfRow k c b n s = if isEvent k c b n s = true then some (toS ⟨k, c, b, n, s⟩) else none := by
  unfold Vbkvad.seenOfRow Vbkvad.isField toS
  have hcl : Vbkvad.CLIENTS = 8 := rfl
  rw [hcl]
  by_cases h : isEvent k c b n s = true
  · rw [if_pos h]
    obtain ⟨h1, h2, h3, h4, h5, h6⟩ := (isEvent_iff k c b n s).mp h
    have e : (decide (1 ≤ c) && (decide (c ≤ 8) && (decide (0 ≤ b) && decide (b ≤ 1000000000) && (decide (0 ≤ n) && decide (n ≤ 1000000000) && (decide (0 ≤ s) && decide (s ≤ 1000000000)))))) = true := by
      simp only [Bool.and_eq_true, decide_eq_true_eq]
      omega
    rw [if_pos e]
    rcases h1 with h1 | h1
    · rw [if_pos h1, if_pos (by omega)]
      simp only [h1, if_true]
    · rw [if_neg (by omega), if_pos h1]
      simp only [h1]
      rfl
  · rw [if_neg h]
    have hn := fun q => h ((isEvent_iff k c b n s).mpr q)
    split
    · rename_i e
      simp only [Bool.and_eq_true, decide_eq_true_eq] at e
      by_cases k0 : k = 0
      · rw [if_pos k0]
        by_cases s0 : s = 0
        · exact absurd ⟨.inl k0, ⟨by omega, by omega⟩, ⟨by omega, by omega⟩, ⟨by omega, by omega⟩, ⟨by omega, by omega⟩, .inr s0⟩ hn
        · rw [if_neg s0]
      · rw [if_neg k0]
        by_cases k1 : k = 1
        · exact absurd ⟨.inr k1, ⟨by omega, by omega⟩, ⟨by omega, by omega⟩, ⟨by omega, by omega⟩, ⟨by omega, by omega⟩, .inl k1⟩ hn
        · rw [if_neg k1]
    · rfl
theorem sM_toS {e : M5} (h : e.ok = true) : sM (toS e) = e := by
  obtain ⟨k, c, b, n, s⟩ := e
  obtain ⟨h1, h2, h3, h4, h5, h6⟩ := (isEvent_iff k c b n s).mp h
  unfold toS
  rcases h1 with h1 | h1
  · subst h1
    have hs : s = 0 := by omega
    subst hs
    show (⟨0, ((c.toNat : Nat) : Int), ((b.toNat : Nat) : Int), ((n.toNat : Nat) : Int), 0⟩ : M5) = _
    rw [Int.toNat_of_nonneg (by omega), Int.toNat_of_nonneg (by omega), Int.toNat_of_nonneg (by omega)]
  · subst h1
    show (⟨1, ((c.toNat : Nat) : Int), ((b.toNat : Nat) : Int), ((n.toNat : Nat) : Int), ((s.toNat : Nat) : Int)⟩ : M5) = _
    rw [Int.toNat_of_nonneg (by omega), Int.toNat_of_nonneg (by omega), Int.toNat_of_nonneg (by omega), Int.toNat_of_nonneg (by omega)]
theorem map_sM {es : List M5} (h : es.all M5.ok = true) : (es.map toS).map sM = es := by
  rw [List.map_map]
  refine (List.map_congr_left fun e he => ?_).trans (List.map_id _)
  exact sM_toS (List.all_eq_true.mp h e he)
theorem decodeEvents_eq : ∀ l : List Int, Vbkvad.decodeEvents l = if isEventList l = true then some ((fives l).map toS) else none
  | [] => rfl
  | [_] => rfl
  | [_, _] => rfl
  | [_, _, _] => rfl
  | [_, _, _, _] => rfl
  | k :: c :: b :: n :: s :: r => by
    have ih := decodeEvents_eq r
    have e : Vbkvad.decodeEvents (k :: c :: b :: n :: s :: r) = match Vbkvad.seenOfRow k c b n s with
      | none => none
      | some e => (Vbkvad.decodeEvents r).map fun t => e :: t := rfl
    have el : (k :: c :: b :: n :: s :: r).length % 5 = r.length % 5 := by
      simp only [List.length_cons]
      omega
    have ep : fives (k :: c :: b :: n :: s :: r) = ⟨k, c, b, n, s⟩ :: fives r := rfl
    unfold isEventList at ih ⊢
    rw [e, el, ep, List.all_cons, ih, seenOfRow_eq]
    have eo : M5.ok ⟨k, c, b, n, s⟩ = isEvent k c b n s := rfl
    rw [eo]
    cases hs : isEvent k c b n s with
    | false => simp
    | true =>
      simp only [if_true, Bool.true_and]
      split <;> rfl
/-! ### the judge -/
def numsOf (hs : List Seen) : List Nat := hs.filterMap fun e => match e with
  | .receipt _ _ _ n => some n
  | .request _ _ _ => none
def JS (hs : List Seen) (i : Nat) : Judged := (hs.take i).foldl Vbkvad.judgeEvent ⟨[], []⟩
theorem take_one {α : Type} {l : List α} {i : Nat} {x : α} (h : l[i]? = some x) : l.take (i + 1) = l.take i ++ [x] := by
  rw [List.take_add_one, h]
  rfl
theorem JS_more {hs : List Seen} {i : Nat} {e : Seen} (h : hs[i]? = some e) : JS hs (i + 1) = Vbkvad.judgeEvent (JS hs i) e := by
  unfold JS
  rw [take_one h, List.foldl_append]
  rfl
theorem numsOf_append (a b : List Seen) : numsOf (a ++ b) = numsOf a ++ numsOf b := List.filterMap_append
theorem JS_nums (hs : List Seen) : ∀ i, i ≤ hs.length → (JS hs i).numbers = numsOf (hs.take i)
  | 0, _ => rfl
  | i + 1, h => by
    have hi : hs[i]? = some hs[i] := List.getElem?_eq_getElem (by omega)
    have ih := JS_nums hs i (by omega)
    rw [JS_more hi, take_one hi, numsOf_append, ← ih]
    cases hs[i] with
    | request c b k => exact (List.append_nil _).symm
    | receipt c b k n => rfl
theorem es_get (hs : List Seen) (i : Nat) : (hs.map sM)[i]? = (hs[i]?).map sM := List.getElem?_map
theorem lastRequest_more {hs : List Seen} {i : Nat} {e : Seen} (h : hs[i]? = some e) (c : Int) : lastRequest (hs.map sM) c (i + 1) = if (sM e).k = 0 ∧ (sM e).c = c then (i : Int) else lastRequest (hs.map sM) c i := by
  have e1 : (hs.map sM)[i]? = some (sM e) := by
    rw [es_get, h]
    rfl
  conv => lhs; unfold lastRequest
  rw [e1]
theorem unans_more {hs : List Seen} {i j : Nat} {e x : Seen} (h : hs[i]? = some e) (hj : j < i) (hx : hs[j]? = some x) : isUnanswered (hs.map sM) (i + 1) j = (isUnanswered (hs.map sM) i j && !isReceiptOf (sM x).c (sM e)) := by
  have e1 : (hs.map sM)[i]? = some (sM e) := by
    rw [es_get, h]
    rfl
  have e2 : (hs.map sM)[j]? = some (sM x) := by
    rw [es_get, hx]
    rfl
  have hl : i ≤ (hs.map sM).length := by
    rw [List.length_map]
    have := (List.getElem?_eq_some_iff.mp h).1
    omega
  unfold isUnanswered
  rw [e2, take_one e1, List.drop_append_of_le_length (by rw [List.length_take]; omega)]
  simp only [List.any_append, Option.getD_some, List.any_cons, List.any_nil, Bool.or_false, Bool.not_or]
theorem unans_new {hs : List Seen} {i : Nat} : isUnanswered (hs.map sM) (i + 1) i = true := by
  unfold isUnanswered
  rw [List.drop_of_length_le (by rw [List.length_take]; omega)]
  rfl
theorem highest_fold : ∀ (hs : List Seen) (a : Nat), (hs.map sM).foldl highOn (a : Int) = (((numsOf hs).foldl max a : Nat) : Int)
  | [], a => rfl
  | e :: r, a => by
    rw [List.map_cons, List.foldl_cons]
    cases e with
    | request c b k => exact highest_fold r a
    | receipt c b k n =>
      have e1 : highOn (a : Int) (sM (.receipt c b k n)) = ((max a n : Nat) : Int) := max_cast a n
      rw [e1, highest_fold r]
      rfl
theorem highest_eq (hs : List Seen) (j : Nat) : highestReceived (hs.map sM) j = ((Vbkvad.highest (numsOf (hs.take j)) : Nat) : Int) := by
  unfold highestReceived Vbkvad.highest
  rw [← List.map_take]
  exact highest_fold _ 0
theorem find_filter {c c0 : Nat} (hne : c ≠ c0) : ∀ (l : List Latest), (l.filter fun r => r.client != c0).find? (fun r => r.client == c) = l.find? fun r => r.client == c
  | [] => rfl
  | r :: l => by
    have ih := find_filter hne l
    rw [List.filter_cons, List.find?_cons]
    by_cases h0 : r.client = c0
    · have e1 : (r.client != c0) = false := by simp [h0]
      have e2 : (r.client == c) = false := by
        rw [beq_eq_false_iff_ne, h0]
        exact Ne.symm hne
      rw [e1, e2, if_neg Bool.false_ne_true]
      exact ih
    · have e1 : (r.client != c0) = true := by simp [h0]
      rw [e1, if_pos rfl, List.find?_cons, ih]
theorem find_filter0 (c0 : Nat) : ∀ (l : List Latest), (l.filter fun r => r.client != c0).find? (fun r => r.client == c0) = none
  | [] => rfl
  | r :: l => by
    have ih := find_filter0 c0 l
    rw [List.filter_cons]
    by_cases h0 : r.client = c0
    · have e1 : (r.client != c0) = false := by simp [h0]
      rw [e1, if_neg Bool.false_ne_true]
      exact ih
    · have e1 : (r.client != c0) = true := by simp [h0]
      rw [e1, if_pos rfl, List.find?_cons, beq_eq_false_iff_ne.mpr h0]
      exact ih
theorem find_close (c c0 : Nat) : ∀ (l : List Latest), (l.map fun r => if r.client = c0 then { r with isOpen := false } else r).find? (fun r => r.client == c) = (l.find? fun r => r.client == c).map fun r => if r.client = c0 then { r with isOpen := false } else r
  | [] => rfl
  | r :: l => by
    have ih := find_close c c0 l
    rw [List.map_cons, List.find?_cons, List.find?_cons, ih]
    have ec : (if r.client = c0 then { r with isOpen := false } else r : Latest).client = r.client := by split <;> rfl
    rw [ec]
    cases r.client == c <;> rfl
/-- what the judge keeps of a client -/
def Lat (hs : List Seen) (i : Nat) (c : Nat) : Prop :=
  (lastRequest (hs.map sM) (c : Int) i = -1 ∧ Vbkvad.latestOf (JS hs i) c = none) ∨
  ∃ (j : Nat) (b k : Nat), j < i ∧ hs[j]? = some (.request c b k) ∧ lastRequest (hs.map sM) (c : Int) i = (j : Int) ∧ Vbkvad.latestOf (JS hs i) c = some ⟨c, b, k, Vbkvad.highest (numsOf (hs.take j)), isUnanswered (hs.map sM) i j⟩
theorem lat_all (hs : List Seen) (c : Nat) : ∀ i, i ≤ hs.length → Lat hs i c
  | 0, _ => .inl ⟨rfl, rfl⟩
  | i + 1, h => by
    have ih := lat_all hs c i (by omega)
    have hi : hs[i]? = some hs[i] := List.getElem?_eq_getElem (by omega)
    have hn := JS_nums hs i (by omega)
    unfold Lat
    rw [lastRequest_more hi, JS_more hi]
    cases he : hs[i] with
    | request c0 b k =>
      rw [he] at hi
      by_cases hc : c0 = c
      · subst hc
        right
        refine ⟨i, b, k, by omega, hi, ?_, ?_⟩
        · exact if_pos ⟨rfl, rfl⟩
        · rw [unans_new, ← hn]
          show ((((JS hs i).latest.filter fun r : Latest => r.client != c0) ++ [(⟨c0, b, k, Vbkvad.highest (JS hs i).numbers, true⟩ : Latest)]).find? fun r : Latest => r.client == c0) = _
          rw [List.find?_append, find_filter0]
          simp
      · have e1 : (if (sM (.request c0 b k)).k = 0 ∧ (sM (.request c0 b k)).c = (c : Int) then (i : Int) else lastRequest (hs.map sM) (c : Int) i) = lastRequest (hs.map sM) (c : Int) i :=
          if_neg fun q => hc (by
            have : (c0 : Int) = (c : Int) := q.2
            omega)
        have e2 : Vbkvad.latestOf (Vbkvad.judgeEvent (JS hs i) (.request c0 b k)) c = Vbkvad.latestOf (JS hs i) c := by
          show ((((JS hs i).latest.filter fun r : Latest => r.client != c0) ++ [(⟨c0, b, k, Vbkvad.highest (JS hs i).numbers, true⟩ : Latest)]).find? fun r : Latest => r.client == c) = _
          rw [List.find?_append, find_filter (Ne.symm hc)]
          have e3 : ([⟨c0, b, k, Vbkvad.highest (JS hs i).numbers, true⟩] : List Latest).find? (fun r => r.client == c) = none := by simp [hc]
          rw [e3, Option.or_none]
          rfl
        rw [e1, e2]
        rcases ih with ⟨q1, q2⟩ | ⟨j, b', k', q1, q2, q3, q4⟩
        · exact .inl ⟨q1, q2⟩
        · refine .inr ⟨j, b', k', by omega, q2, q3, ?_⟩
          rw [q4, unans_more hi q1 q2]
          have : isReceiptOf (sM (.request c b' k')).c (sM (.request c0 b k)) = false := rfl
          rw [this]
          simp
    | receipt c0 b k n =>
      rw [he] at hi
      have e1 : (if (sM (.receipt c0 b k n)).k = 0 ∧ (sM (.receipt c0 b k n)).c = (c : Int) then (i : Int) else lastRequest (hs.map sM) (c : Int) i) = lastRequest (hs.map sM) (c : Int) i :=
        if_neg fun q => absurd (show (1 : Int) = 0 from q.1) (by decide)
      have e2 : Vbkvad.latestOf (Vbkvad.judgeEvent (JS hs i) (.receipt c0 b k n)) c = (Vbkvad.latestOf (JS hs i) c).map fun r => if r.client = c0 then { r with isOpen := false } else r := find_close c c0 _
      rw [e1, e2]
      rcases ih with ⟨q1, q2⟩ | ⟨j, b', k', q1, q2, q3, q4⟩
      · rw [q2]
        exact .inl ⟨q1, rfl⟩
      · refine .inr ⟨j, b', k', by omega, q2, q3, ?_⟩
        rw [q4, unans_more hi q1 q2]
        have : isReceiptOf (sM (.request c b' k')).c (sM (.receipt c0 b k n)) = decide (c0 = c) := by
          show (decide ((1 : Int) = 1) && decide ((c0 : Int) = (c : Int))) = _
          rw [decide_eq_true rfl, Bool.true_and]
          exact decide_eq_decide.mpr (by omega)
        rw [this]
        show some (if c = c0 then _ else _) = _
        by_cases hc : c = c0
        · rw [if_pos hc, decide_eq_true hc.symm, Bool.not_true, Bool.and_false]
        · rw [if_neg hc, decide_eq_false (Ne.symm hc), Bool.not_false, Bool.and_true]
theorem was_eq (hs : List Seen) (i n : Nat) : wasReceived (hs.map sM) i (n : Int) = (numsOf (hs.take i)).contains n := by
  unfold wasReceived
  rw [← List.map_take]
  generalize hs.take i = l
  induction l with
  | nil => rfl
  | cons e r ih =>
    rw [List.map_cons, List.any_cons, ih]
    cases e with
    | request c b k => rfl
    | receipt c b k m =>
      have e1 : isReceiptAt (n : Int) (sM (.receipt c b k m)) = decide (m = n) := by
        show (decide ((1 : Int) = 1) && decide ((m : Int) = (n : Int))) = _
        rw [decide_eq_true rfl, Bool.true_and]
        exact decide_eq_decide.mpr (by omega)
      have e2 : numsOf (Seen.receipt c b k m :: r) = m :: numsOf r := rfl
      rw [e1, e2, List.contains_cons]
      congr 1
      by_cases q : m = n
      · subst q
        simp
      · rw [decide_eq_false q]
        exact (beq_eq_false_iff_ne.mpr (Ne.symm q)).symm
def rightOf (last en eb ob on : Int) (u : Bool) : Bool := if last < 0 then decide (en = 1) else if ob < eb then decide (en = 1) else if eb < ob then false else !u && decide (en = on + 1)
def badOf (last : Int) (u : Bool) (ob eb on en : Int) (was : Bool) (s hi : Int) : Int := if last < 0 then 2 else if u = false then 2 else if ob ≠ eb ∨ on ≠ en then 2 else if was = true then 3 else if s ≤ 0 ∨ s ≤ hi then 4 else 0
theorem right_eq (es : List M5) (i : Nat) (e : M5) (h : es[i]? = some e) : isRightRequest es i = rightOf (lastRequest es e.c i) e.n e.b ((es[(lastRequest es e.c i).toNat]?).getD default).b ((es[(lastRequest es e.c i).toNat]?).getD default).n (isUnanswered es i (lastRequest es e.c i).toNat) := by
  unfold isRightRequest
  rw [h]
  rfl
theorem bad_eq (es : List M5) (i : Nat) (e : M5) (h : es[i]? = some e) : faultOfReceipt es i = badOf (lastRequest es e.c i) (isUnanswered es i (lastRequest es e.c i).toNat) ((es[(lastRequest es e.c i).toNat]?).getD default).b e.b ((es[(lastRequest es e.c i).toNat]?).getD default).n e.n (wasReceived es i e.s) e.s (highestReceived es (lastRequest es e.c i).toNat) := by
  unfold faultOfReceipt
  rw [h]
  rfl
theorem fault_request (hs : List Seen) (i c b k : Nat) (h : hs[i]? = some (.request c b k)) : Tz.faultOf (hs.map sM) i = if isRightRequest (hs.map sM) i = true then 0 else 1 := by
  have ee : (hs.map sM)[i]? = some (sM (.request c b k)) := by
    rw [es_get, h]
    rfl
  unfold Tz.faultOf
  rw [ee]
  exact if_neg (show ¬ (0 : Int) = 1 by decide)
theorem fault_receipt (hs : List Seen) (i c b k n : Nat) (h : hs[i]? = some (.receipt c b k n)) : Tz.faultOf (hs.map sM) i = faultOfReceipt (hs.map sM) i := by
  have ee : (hs.map sM)[i]? = some (sM (.receipt c b k n)) := by
    rw [es_get, h]
    rfl
  unfold Tz.faultOf
  rw [ee]
  exact if_pos rfl
theorem fault_eq (hs : List Seen) (i : Nat) (e : Seen) (h : hs[i]? = some e) : Tz.faultOf (hs.map sM) i = ((Vbkvad.faultOf (JS hs i) e : Nat) : Int) := by
  have hl : i < hs.length := (List.getElem?_eq_some_iff.mp h).1
  have ee : (hs.map sM)[i]? = some (sM e) := by
    rw [es_get, h]
    rfl
  have hn := JS_nums hs i (by omega)
  cases e with
  | request c b k =>
    rw [fault_request hs i c b k h, right_eq _ i _ ee]
    have ec : (sM (.request c b k)).c = (c : Int) := rfl
    have eb : (sM (.request c b k)).b = (b : Int) := rfl
    have en : (sM (.request c b k)).n = (k : Int) := rfl
    rw [ec, eb, en]
    rcases lat_all hs c i (by omega) with ⟨q1, q2⟩ | ⟨j, b', k', q1, q2, q3, q4⟩
    · have es : Vbkvad.faultOf (JS hs i) (.request c b k) = if k = 1 then 0 else 1 := by
        unfold Vbkvad.faultOf
        simp only [q2]
      rw [es, q1]
      have er : ∀ x y u, rightOf (-1) (k : Int) (b : Int) x y u = decide ((k : Int) = 1) := fun _ _ _ => rfl
      rw [er]
      by_cases hk1 : k = 1
      · rw [if_pos hk1, decide_eq_true (show (k : Int) = 1 by omega), if_pos rfl]
        rfl
      · rw [if_neg hk1, decide_eq_false (show ¬ (k : Int) = 1 by omega), if_neg Bool.false_ne_true]
        rfl
    · have ej : (hs.map sM)[j]? = some (sM (.request c b' k')) := by
        rw [es_get, q2]
        rfl
      have es : Vbkvad.faultOf (JS hs i) (.request c b k) = if (b' < b ∧ k = 1) ∨ (b = b' ∧ isUnanswered (hs.map sM) i j = false ∧ k = k' + 1) then 0 else 1 := by
        unfold Vbkvad.faultOf
        simp only [q4]
      rw [es, q3, Int.toNat_natCast, ej]
      have ob : ((some (sM (.request c b' k'))).getD default).b = (b' : Int) := rfl
      have on : ((some (sM (.request c b' k'))).getD default).n = (k' : Int) := rfl
      rw [ob, on]
      generalize isUnanswered (hs.map sM) i j = u
      have key : rightOf (j : Int) (k : Int) (b : Int) (b' : Int) (k' : Int) u = true ↔ (b' < b ∧ k = 1) ∨ (b = b' ∧ u = false ∧ k = k' + 1) := by
        unfold rightOf
        rw [if_neg (show ¬ (j : Int) < 0 by omega)]
        by_cases h1 : b' < b
        · rw [if_pos (show (b' : Int) < (b : Int) by omega), decide_eq_true_eq]
          omega
        · rw [if_neg (show ¬ (b' : Int) < (b : Int) by omega)]
          by_cases h2 : b < b'
          · rw [if_pos (show (b : Int) < (b' : Int) by omega)]
            constructor
            · intro q
              cases q
            · omega
          · rw [if_neg (show ¬ (b : Int) < (b' : Int) by omega), Bool.and_eq_true, decide_eq_true_eq]
            have e3 : b = b' := by omega
            cases u with
            | true => simp [h1]
            | false =>
              simp only [Bool.not_false, true_and]
              omega
      by_cases hh : (b' < b ∧ k = 1) ∨ (b = b' ∧ u = false ∧ k = k' + 1)
      · rw [if_pos hh, if_pos (key.mpr hh)]
        rfl
      · rw [if_neg hh, if_neg (fun z => hh (key.mp z))]
        rfl
  | receipt c b k n =>
    rw [fault_receipt hs i c b k n h, bad_eq _ i _ ee]
    have ec : (sM (.receipt c b k n)).c = (c : Int) := rfl
    have eb : (sM (.receipt c b k n)).b = (b : Int) := rfl
    have en : (sM (.receipt c b k n)).n = (k : Int) := rfl
    have es : (sM (.receipt c b k n)).s = (n : Int) := rfl
    rw [ec, eb, en, es]
    rcases lat_all hs c i (by omega) with ⟨q1, q2⟩ | ⟨j, b', k', q1, q2, q3, q4⟩
    · have ef : Vbkvad.faultOf (JS hs i) (.receipt c b k n) = 2 := by
        unfold Vbkvad.faultOf
        simp only [q2]
      rw [ef, q1]
      rfl
    · have ej : (hs.map sM)[j]? = some (sM (.request c b' k')) := by
        rw [es_get, q2]
        rfl
      have ef : Vbkvad.faultOf (JS hs i) (.receipt c b k n) = if isUnanswered (hs.map sM) i j = false ∨ b' ≠ b ∨ k' ≠ k then 2 else if (numsOf (hs.take i)).contains n = true then 3 else if n ≤ Vbkvad.highest (numsOf (hs.take j)) then 4 else 0 := by
        unfold Vbkvad.faultOf
        simp only [q4, hn]
      rw [ef, q3, Int.toNat_natCast, ej, was_eq, highest_eq]
      have ob : ((some (sM (.request c b' k'))).getD default).b = (b' : Int) := rfl
      have on : ((some (sM (.request c b' k'))).getD default).n = (k' : Int) := rfl
      rw [ob, on]
      generalize isUnanswered (hs.map sM) i j = u
      generalize Vbkvad.highest (numsOf (hs.take j)) = hi
      generalize (numsOf (hs.take i)).contains n = g
      unfold badOf
      rw [if_neg (show ¬ (j : Int) < 0 by omega)]
      cases u with
      | false =>
        rw [if_pos (show false = false from rfl), if_pos (show false = false ∨ b' ≠ b ∨ k' ≠ k from .inl rfl)]
        rfl
      | true =>
        rw [if_neg (show ¬ true = false by decide)]
        by_cases h1 : b' ≠ b ∨ k' ≠ k
        · rw [if_pos (show (b' : Int) ≠ (b : Int) ∨ (k' : Int) ≠ (k : Int) by omega), if_pos (show true = false ∨ b' ≠ b ∨ k' ≠ k from .inr h1)]
          rfl
        · rw [if_neg (show ¬ ((b' : Int) ≠ (b : Int) ∨ (k' : Int) ≠ (k : Int)) by omega), if_neg (show ¬ (true = false ∨ b' ≠ b ∨ k' ≠ k) from fun q => q.elim (fun z => Bool.noConfusion z) h1)]
          cases g with
          | true =>
            rw [if_pos (show true = true from rfl), if_pos (show true = true from rfl)]
            rfl
          | false =>
            rw [if_neg (show ¬ false = true by decide), if_neg (show ¬ false = true by decide)]
            by_cases h2 : n ≤ hi
            · rw [if_pos (show (n : Int) ≤ 0 ∨ (n : Int) ≤ (hi : Int) by omega), if_pos h2]
              rfl
            · rw [if_neg (show ¬ ((n : Int) ≤ 0 ∨ (n : Int) ≤ (hi : Int)) by omega), if_neg h2]
              rfl
theorem first_eq (hs : List Seen) : ∀ (m i : Nat), i + m = hs.length → verdictFrom (hs.map sM) i m = match Vbkvad.firstFault (JS hs i) i (hs.drop i) with
    | none => [0, nat hs.length]
    | some (f, j) => [nat f, nat j]
  | 0, i, h => by
    have e : hs.drop i = [] := List.drop_eq_nil_of_le (by omega)
    rw [e]
    show [0, (i : Int)] = [0, nat hs.length]
    rw [nat_eq]
    have : i = hs.length := by omega
    rw [this]
  | m + 1, i, h => by
    have hl : i < hs.length := by omega
    have hi : hs[i]? = some hs[i] := List.getElem?_eq_getElem hl
    have ed : hs.drop i = hs[i] :: hs.drop (i + 1) := List.drop_eq_getElem_cons hl
    rw [ed]
    have ih := first_eq hs m (i + 1) (by omega)
    rw [JS_more hi] at ih
    have ev : verdictFrom (hs.map sM) i (m + 1) = if Tz.faultOf (hs.map sM) i ≠ 0 then [Tz.faultOf (hs.map sM) i, (i : Int)] else verdictFrom (hs.map sM) (i + 1) m := rfl
    have ef : Vbkvad.firstFault (JS hs i) i (hs[i] :: hs.drop (i + 1)) = if Vbkvad.faultOf (JS hs i) hs[i] = 0 then Vbkvad.firstFault (Vbkvad.judgeEvent (JS hs i) hs[i]) (i + 1) (hs.drop (i + 1)) else some (Vbkvad.faultOf (JS hs i) hs[i], i) := rfl
    rw [ev, ef, fault_eq hs i _ hi, ih]
    by_cases h0 : Vbkvad.faultOf (JS hs i) hs[i] = 0
    · rw [if_pos h0, if_neg (by omega)]
    · rw [if_neg h0, if_pos (by omega)]
      rfl
theorem verdict_eq (hs : List Seen) : verdict (hs.map sM) = Vbkvad.judgeRow hs := by
  unfold verdict
  rw [List.length_map, first_eq hs hs.length 0 (by omega)]
  rfl
theorem judge_exec (l : List Int) : Tz.judge l = (if Vbkvad.JUDGE_INTEGERS < l.length then [-6] else match Vbkvad.decodeEvents l with
    | none => [-6]
    | some h => Vbkvad.judgeRow h) := by
  unfold Tz.judge
  have hj : Vbkvad.JUDGE_INTEGERS = 300 := rfl
  rw [hj, decodeEvents_eq]
  by_cases h1 : 300 < l.length
  · rw [if_pos h1, if_pos (.inl h1)]
  · rw [if_neg h1]
    cases h2 : isEventList l with
    | false =>
      rw [if_pos (.inr rfl), if_neg Bool.false_ne_true]
    | true =>
      rw [if_neg (fun q => q.elim h1 (by decide)), if_pos rfl]
      have hall : (fives l).all M5.ok = true := by
        unfold isEventList at h2
        rw [Bool.and_eq_true] at h2
        exact h2.2
      show verdict (fives l) = Vbkvad.judgeRow ((fives l).map toS)
      rw [← verdict_eq, map_sM hall]
end Tz
/-! The pure law: the scheduler. -/
namespace Tz
open Vbkvad (Seen Judged Latest nat Plan Step)
def stepsS (h : List Seen) (p : Plan) : Seen → List Step
  | .request c b _ => (List.replicate (b - Vbkvad.bootOf p c) [Step.crashClient c, Step.restartClient c]).flatten ++ [.request c, .drop p.waiting.length]
  | .receipt c _ _ n =>
    if n < p.next then [.deliver (p.waiting.idxOf n)]
    else (Vbkvad.makeNumbers h c (n - p.next) p.next p.waiting).1 ++ [.again c, .deliver (Vbkvad.makeNumbers h c (n - p.next) p.next p.waiting).2.length, .force, .deliver (Vbkvad.makeNumbers h c (n - p.next) p.next p.waiting).2.length]
def planS (h : List Seen) (p : Plan) : Seen → Plan
  | .request c b _ => { p with boots := (c, b) :: p.boots }
  | .receipt c _ _ n =>
    if n < p.next then { p with waiting := p.waiting.erase n }
    else { p with next := n + 1, waiting := (Vbkvad.makeNumbers h c (n - p.next) p.next p.waiting).2 }
theorem stepsS_r (h : List Seen) (p : Plan) (c b k n : Nat) : stepsS h p (.receipt c b k n) = if n < p.next then [.deliver (p.waiting.idxOf n)]
    else (Vbkvad.makeNumbers h c (n - p.next) p.next p.waiting).1 ++ [.again c, .deliver (Vbkvad.makeNumbers h c (n - p.next) p.next p.waiting).2.length, .force, .deliver (Vbkvad.makeNumbers h c (n - p.next) p.next p.waiting).2.length] := rfl
theorem planS_r (h : List Seen) (p : Plan) (c b k n : Nat) : planS h p (.receipt c b k n) = if n < p.next then { p with waiting := p.waiting.erase n }
    else { p with next := n + 1, waiting := (Vbkvad.makeNumbers h c (n - p.next) p.next p.waiting).2 } := rfl
theorem from_cons (h : List Seen) (p : Plan) (x : Seen) (l : List Seen) : Vbkvad.scheduleFrom h p (x :: l) = stepsS h p x ++ Vbkvad.scheduleFrom h (planS h p x) l := by
  cases x with
  | request c b k => rfl
  | receipt c b k n =>
    rw [stepsS_r, planS_r]
    conv => lhs; unfold Vbkvad.scheduleFrom
    by_cases q : n < p.next
    · rw [if_pos q, if_pos q, if_pos q]
      rfl
    · rw [if_neg q, if_neg q, if_neg q]
def rows (l : List Step) : List Int := l.flatMap Vbkvad.stepRow
theorem rows_append (a b : List Step) : rows (a ++ b) = rows a ++ rows b := List.flatMap_append
theorem rows_len (l : List Step) : (rows l).length = 2 * l.length := by
  induction l with
  | nil => rfl
  | cons s r ih =>
    have e : rows (s :: r) = Vbkvad.stepRow s ++ rows r := List.flatMap_cons
    rw [e, List.length_append, ih, List.length_cons]
    have : (Vbkvad.stepRow s).length = 2 := by cases s <;> rfl
    omega
/-- the mirror's plan stands for the document's -/
structure PlanIs (q : MPlan) (p : Plan) : Prop where
  len : q.boots.length = 9
  boot : ∀ c : Nat, c ≤ 8 → q.boot (c : Int) = ((Vbkvad.bootOf p c : Nat) : Int)
  next : q.next = (p.next : Int)
  pend : q.pending = castL p.waiting
def InC : Seen → Prop
  | .request c _ _ | .receipt c _ _ _ => 1 ≤ c ∧ c ≤ 8
theorem idx_cast (n : Nat) : ∀ l : List Nat, (castL l).idxOf (n : Int) = l.idxOf n
  | [] => rfl
  | a :: r => by
    show ((a : Int) :: castL r).idxOf (n : Int) = _
    rw [List.idxOf_cons, List.idxOf_cons, idx_cast n r]
    have e : ((a : Int) == (n : Int)) = (a == n) := by
      by_cases h : a = n
      · subst h
        rw [beq_self_eq_true, beq_self_eq_true]
      · rw [beq_eq_false_iff_ne.mpr h, beq_eq_false_iff_ne.mpr (by omega)]
    rw [e]
theorem erase_cast (n : Nat) : ∀ l : List Nat, (castL l).eraseIdx ((castL l).idxOf (n : Int)) = castL (l.erase n)
  | [] => rfl
  | a :: r => by
    have ih := erase_cast n r
    rw [idx_cast] at ih ⊢
    rw [List.idxOf_cons, List.erase_cons]
    cases a == n with
    | true => rfl
    | false =>
      show (a : Int) :: (castL r).eraseIdx (r.idxOf n) = (a : Int) :: castL (r.erase n)
      rw [ih]
theorem owner_cast : ∀ (hs : List Seen) (n : Nat), ownerOf (hs.map sM) (n : Int) = (((Vbkvad.ownerOf hs n).getD 0 : Nat) : Int)
  | [], n => rfl
  | e :: r, n => by
    have ih := owner_cast r n
    rw [List.map_cons]
    cases e with
    | request c b k =>
      have e1 : ownerOf (sM (.request c b k) :: r.map sM) (n : Int) = ownerOf (r.map sM) (n : Int) := if_neg fun q => absurd (show (0 : Int) = 1 from q.1) (by decide)
      rw [e1, ih]
      rfl
    | receipt c b k m =>
      by_cases hm : m = n
      · have e1 : ownerOf (sM (.receipt c b k m) :: r.map sM) (n : Int) = (c : Int) := if_pos ⟨rfl, by rw [hm] <;> rfl⟩
        have e2 : Vbkvad.ownerOf (Seen.receipt c b k m :: r) n = some c := by
          unfold Vbkvad.ownerOf
          rw [List.findSome?_cons]
          simp only [hm, if_true]
        rw [e1, e2]
        rfl
      · have e1 : ownerOf (sM (.receipt c b k m) :: r.map sM) (n : Int) = ownerOf (r.map sM) (n : Int) := if_neg fun q => hm (by
          have : (m : Int) = (n : Int) := q.2
          omega)
        have e2 : Vbkvad.ownerOf (Seen.receipt c b k m :: r) n = Vbkvad.ownerOf r n := by
          unfold Vbkvad.ownerOf
          rw [List.findSome?_cons]
          simp only [hm, if_false]
        rw [e1, e2, ih]
theorem owner_pos {hs : List Seen} (hc : ∀ x ∈ hs, InC x) {n d : Nat} (h : Vbkvad.ownerOf hs n = some d) : 1 ≤ d ∧ d ≤ 8 := by
  unfold Vbkvad.ownerOf at h
  obtain ⟨e, he, h2⟩ := List.exists_of_findSome?_eq_some h
  have hi := hc e he
  cases e with
  | request c b k => cases h2
  | receipt c b k m =>
    simp only at h2
    split at h2
    · have := Option.some.inj h2
      rw [← this]
      exact hi
    · cases h2
theorem owner_some {hs : List Seen} {n : Nat} (h : n ∈ numsOf hs) : Vbkvad.ownerOf hs n ≠ none := by
  induction hs with
  | nil => cases h
  | cons e r ih =>
    cases e with
    | request c b k => exact ih h
    | receipt c b k m =>
      by_cases hm : m = n
      · unfold Vbkvad.ownerOf
        rw [List.findSome?_cons]
        simp [hm]
      · have e2 : Vbkvad.ownerOf (Seen.receipt c b k m :: r) n = Vbkvad.ownerOf r n := by
          unfold Vbkvad.ownerOf
          rw [List.findSome?_cons]
          simp only [hm, if_false]
        rw [e2]
        have h2 : n ∈ m :: numsOf r := h
        rcases List.mem_cons.mp h2 with h2 | h2
        · exact absurd h2.symm hm
        · exact ih h2
theorem passBy_front (es : List M5) (c : Int) : ∀ (n : Nat) (f : Int) (p : MPlan), MPlan.passBy es c f (n + 1) p = MPlan.passBy es c (f + 1) n (p.passStamp f (ownerOf es f) c)
  | 0, f, p => by
    show p.passStamp (f + ((0 : Nat) : Int)) (ownerOf es (f + ((0 : Nat) : Int))) c = _
    have e : f + ((0 : Nat) : Int) = f := by omega
    rw [e]
    rfl
  | n + 1, f, p => by
    show (MPlan.passBy es c f (n + 1) p).passStamp (f + ((n + 1 : Nat) : Int)) (ownerOf es (f + ((n + 1 : Nat) : Int))) c = (MPlan.passBy es c (f + 1) n (p.passStamp f (ownerOf es f) c)).passStamp (f + 1 + (n : Int)) (ownerOf es (f + 1 + (n : Int))) c
    rw [passBy_front es c n f p]
    have e : f + ((n + 1 : Nat) : Int) = f + 1 + (n : Int) := by omega
    rw [e]
theorem pass_is {hs : List Seen} (hc : ∀ x ∈ hs, InC x) (c : Nat) : ∀ (count n : Nat) (q : MPlan) (w : List Nat), q.pending = castL w →
    (MPlan.passBy (hs.map sM) (c : Int) (n : Int) count q).steps = q.steps ++ rows (Vbkvad.makeNumbers hs c count n w).1 ∧ (MPlan.passBy (hs.map sM) (c : Int) (n : Int) count q).pending = castL (Vbkvad.makeNumbers hs c count n w).2
  | 0, n, q, w, h => ⟨(List.append_nil _).symm, h⟩
  | count + 1, n, q, w, h => by
    rw [passBy_front]
    have hl : (q.pending.length : Int) = (w.length : Int) := by
      rw [h]
      unfold castL
      rw [List.length_map]
    have en : (n : Int) + 1 = ((n + 1 : Nat) : Int) := by omega
    rw [en, owner_cast]
    unfold MPlan.passStamp
    cases ho : Vbkvad.ownerOf hs n with
    | none =>
      have hm : Vbkvad.makeNumbers hs c (count + 1) n w = ([.again c, .deliver w.length, .force, .drop w.length] ++ (Vbkvad.makeNumbers hs c count (n + 1) w).1, (Vbkvad.makeNumbers hs c count (n + 1) w).2) := by
        conv => lhs; unfold Vbkvad.makeNumbers
        rw [ho]
      rw [hm]
      have e0 : ¬ ((((none : Option Nat).getD 0 : Nat) : Int) ≠ 0) := fun z => z rfl
      rw [if_neg e0]
      obtain ⟨i1, i2⟩ := pass_is hc c count (n + 1) ((q.makeStamp (c : Int)).step 3 q.pending.length) w h
      refine ⟨?_, i2⟩
      rw [i1, rows_append, ← List.append_assoc]
      congr 1
      unfold MPlan.makeStamp MPlan.step
      simp only [List.append_assoc, hl]
      rfl
    | some d =>
      have hm : Vbkvad.makeNumbers hs c (count + 1) n w = ([.again d, .deliver w.length, .force] ++ (Vbkvad.makeNumbers hs c count (n + 1) (w ++ [n])).1, (Vbkvad.makeNumbers hs c count (n + 1) (w ++ [n])).2) := by
        conv => lhs; unfold Vbkvad.makeNumbers
        rw [ho]
      rw [hm]
      have hd := owner_pos hc ho
      have e0 : (((some d).getD 0 : Nat) : Int) ≠ 0 := by
        show (d : Int) ≠ 0
        omega
      rw [if_pos e0]
      have hp : q.pending ++ [(n : Int)] = castL (w ++ [n]) := by
        rw [h]
        unfold castL
        rw [List.map_append] <;> rfl
      obtain ⟨i1, i2⟩ := pass_is hc c count (n + 1) { q.makeStamp (((some d).getD 0 : Nat) : Int) with pending := q.pending ++ [(n : Int)] } (w ++ [n]) hp
      refine ⟨?_, i2⟩
      rw [i1, rows_append, ← List.append_assoc]
      congr 1
      unfold MPlan.makeStamp MPlan.step
      simp only [List.append_assoc, hl]
      rfl
theorem passBy_same (es : List M5) (c f : Int) (p : MPlan) (n : Nat) : (MPlan.passBy es c f n p).boots = p.boots ∧ (MPlan.passBy es c f n p).next = p.next := ⟨(passBy_facts es c f p n).2.1, (passBy_facts es c f p n).2.2.2⟩
theorem up_steps (c : Int) (p : MPlan) : ∀ n, (MPlan.upBy c n p).steps = p.steps ++ (List.replicate n [8, c, 9, c]).flatten
  | 0 => (List.append_nil _).symm
  | n + 1 => by
    show ((MPlan.upBy c n p).steps ++ [8, c]) ++ [9, c] = _
    rw [up_steps c p n, List.replicate_succ', List.flatten_append]
    simp
theorem rows_up (c : Nat) : ∀ n, rows (List.replicate n [Step.crashClient c, Step.restartClient c]).flatten = (List.replicate n [8, (c : Int), 9, (c : Int)]).flatten
  | 0 => rfl
  | n + 1 => by
    rw [List.replicate_succ, List.flatten_cons, rows_append, rows_up c n, List.replicate_succ, List.flatten_cons]
    rfl
theorem planOn_is {hs : List Seen} (hc : ∀ x ∈ hs, InC x) {q : MPlan} {p : Plan} (h : PlanIs q p) (x : Seen) (hx : InC x) :
    PlanIs (planOn (hs.map sM) q (sM x)) (planS hs p x) ∧ (planOn (hs.map sM) q (sM x)).steps = q.steps ++ rows (stepsS hs p x) := by
  have hl : (q.pending.length : Int) = (p.waiting.length : Int) := by
    rw [h.pend]
    unfold castL
    rw [List.length_map]
  cases x with
  | request c b k =>
    have hx2 : 1 ≤ c ∧ c ≤ 8 := hx
    have e1 : planOn (hs.map sM) q (sM (.request c b k)) = q.planRequest (c : Int) (b : Int) := if_pos rfl
    rw [e1]
    obtain ⟨u1, u2, u3, u4⟩ := upBy_facts (c : Int) q ((b : Int) - q.boot (c : Int)).toNat
    have hb := h.boot c hx2.2
    have ebn : ((b : Int) - q.boot (c : Int)).toNat = b - Vbkvad.bootOf p c := by
      rw [hb]
      omega
    constructor
    · refine ⟨?_, fun d hd => ?_, ?_, ?_⟩
      · show ((MPlan.upBy (c : Int) ((b : Int) - q.boot (c : Int)).toNat q).boots.set ((c : Int)).toNat (b : Int)).length = 9
        rw [List.length_set, u2]
        exact h.len
      · show ((((MPlan.upBy (c : Int) ((b : Int) - q.boot (c : Int)).toNat q).boots.set ((c : Int)).toNat (b : Int))[((d : Int)).toNat]?).getD 0 : Int) = ((Vbkvad.bootOf { p with boots := (c, b) :: p.boots } d : Nat) : Int)
        rw [u2, Int.toNat_natCast, Int.toNat_natCast, List.getElem?_set]
        unfold Vbkvad.bootOf
        rw [List.find?_cons]
        by_cases hcd : c = d
        · subst hcd
          rw [if_pos rfl, if_pos (by rw [h.len]; omega)]
          simp
        · rw [if_neg hcd]
          have e3 : ((c, b).1 == d) = false := beq_eq_false_iff_ne.mpr hcd
          rw [e3]
          have := h.boot d hd
          unfold MPlan.boot Vbkvad.bootOf at this
          rw [Int.toNat_natCast] at this
          exact this
      · show (MPlan.upBy (c : Int) ((b : Int) - q.boot (c : Int)).toNat q).next = _
        rw [u4]
        exact h.next
      · show (MPlan.upBy (c : Int) ((b : Int) - q.boot (c : Int)).toNat q).pending = _
        rw [u3]
        exact h.pend
    · show ((MPlan.upBy (c : Int) ((b : Int) - q.boot (c : Int)).toNat q).steps ++ [0, (c : Int)]) ++ [3, ((MPlan.upBy (c : Int) ((b : Int) - q.boot (c : Int)).toNat q).pending.length : Int)] = _
      rw [up_steps, u3, hl, ebn]
      unfold stepsS
      rw [rows_append, rows_up]
      simp only [List.append_assoc]
      rfl
  | receipt c b k n =>
    have hx2 : 1 ≤ c ∧ c ≤ 8 := hx
    have e1 : planOn (hs.map sM) q (sM (.receipt c b k n)) = if (n : Int) < q.next then q.planPending (n : Int) else q.planNew (hs.map sM) (c : Int) (n : Int) := if_neg (show ¬ (1 : Int) = 0 by decide)
    rw [e1, h.next, stepsS_r, planS_r]
    by_cases hn : n < p.next
    · rw [if_pos (show (n : Int) < (p.next : Int) by omega), if_pos hn, if_pos hn]
      constructor
      · refine ⟨h.len, h.boot, h.next, ?_⟩
        show q.pending.eraseIdx (q.pending.idxOf (n : Int)) = castL (p.waiting.erase n)
        rw [h.pend]
        exact erase_cast n p.waiting
      · show q.steps ++ [2, ((q.pending.idxOf (n : Int) : Nat) : Int)] = _
        rw [h.pend, idx_cast]
        rfl
    · rw [if_neg (show ¬ (n : Int) < (p.next : Int) by omega), if_neg hn, if_neg hn]
      have ecount : ((n : Int) - q.next).toNat = n - p.next := by
        rw [h.next]
        omega
      obtain ⟨i1, i2⟩ := pass_is hc c (n - p.next) p.next q p.waiting h.pend
      obtain ⟨j1, j2⟩ := passBy_same (hs.map sM) (c : Int) q.next q ((n : Int) - q.next).toNat
      rw [← h.next, ← ecount] at i1 i2
      have hl2 : ((MPlan.passBy (hs.map sM) (c : Int) q.next ((n : Int) - q.next).toNat q).pending.length : Int) = ((Vbkvad.makeNumbers hs c ((n : Int) - q.next).toNat p.next p.waiting).2.length : Int) := by
        rw [i2]
        unfold castL
        rw [List.length_map]
      rw [← ecount]
      constructor
      · refine ⟨?_, fun d hd => ?_, rfl, i2⟩
        · show (MPlan.passBy (hs.map sM) (c : Int) q.next ((n : Int) - q.next).toNat q).boots.length = 9
          rw [j1]
          exact h.len
        · show (((MPlan.passBy (hs.map sM) (c : Int) q.next ((n : Int) - q.next).toNat q).boots[((d : Int)).toNat]?).getD 0 : Int) = _
          rw [j1]
          exact h.boot d hd
      · show ((((MPlan.passBy (hs.map sM) (c : Int) q.next ((n : Int) - q.next).toNat q).steps ++ [1, (c : Int)]) ++ [2, ((MPlan.passBy (hs.map sM) (c : Int) q.next ((n : Int) - q.next).toNat q).pending.length : Int)]) ++ [5, 0]) ++ [2, ((MPlan.passBy (hs.map sM) (c : Int) q.next ((n : Int) - q.next).toNat q).pending.length : Int)] = _
        rw [i1, hl2, rows_append]
        simp only [List.append_assoc]
        rfl
theorem fresh_is : PlanIs MPlan.fresh ⟨[], 1, []⟩ := by
  refine ⟨rfl, fun c hc => ?_, rfl, rfl⟩
  unfold MPlan.boot MPlan.fresh
  rw [List.getElem?_replicate]
  split <;> rfl
theorem fold_is {hs : List Seen} (hc : ∀ x ∈ hs, InC x) : ∀ (l : List Seen) (q : MPlan) (p : Plan), (∀ x ∈ l, InC x) → PlanIs q p → PlanIs ((l.map sM).foldl (planOn (hs.map sM)) q) (l.foldl (planS hs) p) ∧ ((l.map sM).foldl (planOn (hs.map sM)) q).steps = q.steps ++ rows (Vbkvad.scheduleFrom hs p l)
  | [], q, p, _, h => ⟨h, (List.append_nil _).symm⟩
  | x :: l, q, p, hl, h => by
    obtain ⟨h1, h2⟩ := planOn_is hc h x (hl x List.mem_cons_self)
    obtain ⟨h3, h4⟩ := fold_is hc l _ _ (fun y hy => hl y (List.mem_cons_of_mem _ hy)) h1
    rw [List.map_cons, List.foldl_cons, List.foldl_cons]
    refine ⟨h3, ?_⟩
    rw [h4, h2, from_cons, rows_append, List.append_assoc]
theorem planned_eq {hs : List Seen} (hc : ∀ x ∈ hs, InC x) : planned (hs.map sM) = rows (Vbkvad.schedule hs) := by
  have := (fold_is hc hs MPlan.fresh ⟨[], 1, []⟩ hc fresh_is).2
  exact this
/-! ### what is accepted -/
theorem accepts_all {hs : List Seen} (h : (verdict (hs.map sM)).headD 0 = 0) : ∀ (i : Nat) (e : Seen), hs[i]? = some e → Vbkvad.faultOf (JS hs i) e = 0 := by
  have go : ∀ (m i : Nat), i + m = hs.length → (verdictFrom (hs.map sM) i m).headD 0 = 0 → ∀ j, i ≤ j → j < hs.length → Tz.faultOf (hs.map sM) j = 0 := by
    intro m
    induction m with
    | zero => intro i hi _ j h1 h2; omega
    | succ m ih =>
      intro i hi hv j h1 h2
      have ev : verdictFrom (hs.map sM) i (m + 1) = if Tz.faultOf (hs.map sM) i ≠ 0 then [Tz.faultOf (hs.map sM) i, (i : Int)] else verdictFrom (hs.map sM) (i + 1) m := rfl
      rw [ev] at hv
      by_cases hf : Tz.faultOf (hs.map sM) i = 0
      · rw [if_neg (fun z => z hf)] at hv
        by_cases hij : i = j
        · rw [← hij]
          exact hf
        · exact ih (i + 1) (by omega) hv j (by omega) h2
      · rw [if_pos hf] at hv
        exact absurd hv hf
  intro i e he
  have hl := (List.getElem?_eq_some_iff.mp he).1
  have h2 : (verdictFrom (hs.map sM) 0 hs.length).headD 0 = 0 := by
    have := h
    unfold verdict at this
    rw [List.length_map] at this
    exact this
  have := go hs.length 0 (by omega) h2 i (by omega) hl
  rw [fault_eq hs i e he] at this
  omega
theorem receipt_new {hs : List Seen} (h : ∀ (i : Nat) (e : Seen), hs[i]? = some e → Vbkvad.faultOf (JS hs i) e = 0) {i c b k n : Nat} (hi : hs[i]? = some (.receipt c b k n)) : n ∉ numsOf (hs.take i) := by
  have hf := h i _ hi
  have hl : i < hs.length := (List.getElem?_eq_some_iff.mp hi).1
  have hn := JS_nums hs i (by omega)
  unfold Vbkvad.faultOf at hf
  rcases lat_all hs c i (by omega) with ⟨q1, q2⟩ | ⟨j, b', k', q1, q2, q3, q4⟩
  · simp only [q2] at hf
    cases hf
  · simp only [q4, hn] at hf
    split at hf
    · cases hf
    · split at hf
      · cases hf
      · rename_i hcon
        intro hm
        exact hcon (List.contains_iff_mem.mpr hm)
theorem nums_nodup {hs : List Seen} (h : ∀ (i : Nat) (e : Seen), hs[i]? = some e → Vbkvad.faultOf (JS hs i) e = 0) : ∀ i, i ≤ hs.length → (numsOf (hs.take i)).Nodup
  | 0, _ => List.nodup_nil
  | i + 1, hi => by
    have ih := nums_nodup h i (by omega)
    have hg : hs[i]? = some hs[i] := List.getElem?_eq_getElem (by omega)
    rw [take_one hg, numsOf_append]
    cases he : hs[i] with
    | request c b k =>
      show (numsOf (hs.take i) ++ []).Nodup
      rw [List.append_nil]
      exact ih
    | receipt c b k n =>
      rw [he] at hg
      have := receipt_new h hg
      show (numsOf (hs.take i) ++ [n]).Nodup
      rw [List.nodup_append]
      refine ⟨ih, List.nodup_cons.mpr ⟨List.not_mem_nil, List.nodup_nil⟩, fun a ha b hb => ?_⟩
      rw [List.mem_singleton] at hb
      rw [hb]
      intro z
      exact this (z ▸ ha)
theorem make_mem (hs : List Seen) (c : Nat) : ∀ (count n : Nat) (w : List Nat) (m : Nat), m ∈ w ∨ (n ≤ m ∧ m < n + count ∧ Vbkvad.ownerOf hs m ≠ none) → m ∈ (Vbkvad.makeNumbers hs c count n w).2
  | 0, n, w, m, h => by
    rcases h with h | h
    · exact h
    · omega
  | count + 1, n, w, m, h => by
    conv => unfold Vbkvad.makeNumbers
    cases ho : Vbkvad.ownerOf hs n with
    | none =>
      simp only
      refine make_mem hs c count (n + 1) w m ?_
      rcases h with h | ⟨h1, h2, h3⟩
      · exact .inl h
      · by_cases e : m = n
        · rw [e] at h3
          exact absurd ho h3
        · exact .inr ⟨by omega, by omega, h3⟩
    | some d =>
      simp only
      refine make_mem hs c count (n + 1) (w ++ [n]) m ?_
      rcases h with h | ⟨h1, h2, h3⟩
      · exact .inl (List.mem_append.mpr (.inl h))
      · by_cases e : m = n
        · rw [e]
          exact .inl (List.mem_append.mpr (.inr (List.mem_singleton.mpr rfl)))
        · exact .inr ⟨by omega, by omega, h3⟩
theorem waits {hs : List Seen} (h : ∀ (i : Nat) (e : Seen), hs[i]? = some e → Vbkvad.faultOf (JS hs i) e = 0) : ∀ i, i ≤ hs.length → ∀ n ∈ numsOf (hs.drop i), n < ((hs.take i).foldl (planS hs) ⟨[], 1, []⟩).next → n ∈ ((hs.take i).foldl (planS hs) ⟨[], 1, []⟩).waiting ∨ n = 0
  | 0, _, n, hn, hlt => by
    right
    have : n < 1 := hlt
    omega
  | i + 1, hi, n, hn, hlt => by
    have ih := waits h i (by omega)
    have hg : hs[i]? = some hs[i] := List.getElem?_eq_getElem (by omega)
    have ed : hs.drop i = hs[i] :: hs.drop (i + 1) := List.drop_eq_getElem_cons (by omega)
    have hall : n ∈ numsOf hs := by
      have : hs = hs.take (i + 1) ++ hs.drop (i + 1) := (List.take_append_drop _ _).symm
      rw [this, numsOf_append]
      exact List.mem_append.mpr (.inr hn)
    rw [take_one hg, List.foldl_append] at hlt ⊢
    generalize hp : (hs.take i).foldl (planS hs) ⟨[], 1, []⟩ = p at *
    have hlt2 : n < (planS hs p hs[i]).next := hlt
    show n ∈ (planS hs p hs[i]).waiting ∨ n = 0
    cases he : hs[i] with
    | request c b k =>
      rw [he] at ed hlt2
      have : numsOf (hs.drop i) = numsOf (hs.drop (i + 1)) := by rw [ed] <;> rfl
      rw [← this] at hn
      exact ih n hn hlt2
    | receipt c b k n0 =>
      rw [he] at ed hlt2 hg
      have e0 : numsOf (hs.drop i) = n0 :: numsOf (hs.drop (i + 1)) := by rw [ed] <;> rfl
      have hne : n ≠ n0 := fun z => by
        have hnd := nums_nodup h hs.length (Nat.le_refl _)
        rw [List.take_length] at hnd
        have es : numsOf hs = numsOf (hs.take i) ++ n0 :: numsOf (hs.drop (i + 1)) := by
          rw [← e0, ← numsOf_append, List.take_append_drop]
        rw [es, List.nodup_append] at hnd
        have := (List.nodup_cons.mp hnd.2.1).1
        exact this (z ▸ hn)
      have hmem : n ∈ numsOf (hs.drop i) := by
        rw [e0]
        exact List.mem_cons_of_mem _ hn
      rw [planS_r] at hlt2 ⊢
      by_cases hq : n0 < p.next
      · rw [if_pos hq] at hlt2 ⊢
        rcases ih n hmem hlt2 with q | q
        · exact .inl ((List.mem_erase_of_ne hne).mpr q)
        · exact .inr q
      · rw [if_neg hq] at hlt2 ⊢
        have hlt3 : n < n0 + 1 := hlt2
        by_cases hq2 : n < p.next
        · rcases ih n hmem hq2 with q | q
          · exact .inl (make_mem hs c _ _ _ _ (.inl q))
          · exact .inr q
        · exact .inl (make_mem hs c _ _ _ _ (.inr ⟨by omega, by omega, owner_some hall⟩))
theorem receipt_pos {hs : List Seen} (h : ∀ (i : Nat) (e : Seen), hs[i]? = some e → Vbkvad.faultOf (JS hs i) e = 0) {i c b k n : Nat} (hi : hs[i]? = some (.receipt c b k n)) : n ≠ 0 := by
  have hf := h i _ hi
  have hl : i < hs.length := (List.getElem?_eq_some_iff.mp hi).1
  unfold Vbkvad.faultOf at hf
  rcases lat_all hs c i (by omega) with ⟨q1, q2⟩ | ⟨j, b', k', q1, q2, q3, q4⟩
  · simp only [q2] at hf
    cases hf
  · simp only [q4] at hf
    split at hf
    · cases hf
    · split at hf
      · cases hf
      · split at hf
        · cases hf
        · omega
theorem toS_in {e : M5} (h : e.ok = true) : InC (toS e) := by
  obtain ⟨k, c, b, n, s⟩ := e
  obtain ⟨h1, h2, h3, h4, h5, h6⟩ := (isEvent_iff k c b n s).mp h
  unfold toS
  split
  · show 1 ≤ c.toNat ∧ c.toNat ≤ 8
    omega
  · show 1 ≤ c.toNat ∧ c.toNat ≤ 8
    omega
theorem in_all {es : List M5} (h : es.all M5.ok = true) : ∀ x ∈ es.map toS, InC x := fun x hx => by
  obtain ⟨e, he, rfl⟩ := List.mem_map.mp hx
  exact toS_in (List.all_eq_true.mp h e he)
theorem evl_all {l : List Int} (h : isEventList l = true) : (fives l).all M5.ok = true := by
  unfold isEventList at h
  rw [Bool.and_eq_true] at h
  exact h.2
theorem mem_ok (xs : List Int) (h1 : isEventList xs = true) (h2 : (verdict (fives xs)).headD 0 = 0) : PlanMem (fives xs) := by
  have hall := evl_all h1
  have es : fives xs = ((fives xs).map toS).map sM := (map_sM hall).symm
  have hin := in_all hall
  generalize (fives xs).map toS = hs at es hin
  rw [es] at h2 ⊢
  have hacc := accepts_all h2
  intro i e he hk hlt
  rw [es_get] at he
  cases hx : hs[i]? with
  | none =>
    rw [hx] at he
    cases he
  | some x =>
    rw [hx] at he
    have ex : sM x = e := Option.some.inj he
    have hl : i < hs.length := (List.getElem?_eq_some_iff.mp hx).1
    cases x with
    | request c b k =>
      rw [← ex] at hk
      exact absurd rfl hk
    | receipt c b k n =>
      rw [← ex] at hlt ⊢
      rw [← List.map_take] at hlt ⊢
      obtain ⟨hp, _⟩ := fold_is hin (hs.take i) MPlan.fresh ⟨[], 1, []⟩ (fun y hy => hin y (List.mem_of_mem_take hy)) fresh_is
      have hlt2 : (n : Int) < ((hs.take i).map sM |>.foldl (planOn (hs.map sM)) MPlan.fresh).next := hlt
      rw [hp.next] at hlt2
      show (n : Int) ∈ _
      rw [hp.pend]
      have hm : n ∈ numsOf (hs.drop i) := by
        have ed : hs.drop i = hs[i] :: hs.drop (i + 1) := List.drop_eq_getElem_cons hl
        have hg : hs[i] = .receipt c b k n := by
          have := List.getElem?_eq_getElem hl
          rw [hx] at this
          exact (Option.some.inj this).symm
        rw [ed, hg]
        exact List.mem_cons_self
      rcases waits hacc i (by omega) n hm (by omega) with q | q
      · exact List.mem_map.mpr ⟨n, q, rfl⟩
      · exact absurd q (receipt_pos hacc hx)
theorem large_eq : ∀ (hs : List Seen), isTooLarge (hs.map sM) = !(hs.all Vbkvad.isSmall)
  | [] => rfl
  | x :: r => by
    have ih := large_eq r
    unfold isTooLarge at ih ⊢
    rw [List.map_cons, List.any_cons, ih, List.all_cons, Bool.not_and]
    congr 1
    cases x with
    | request c b k =>
      show (decide (10 < (b : Int)) || decide (100 < (0 : Int))) = !decide (b ≤ 10)
      by_cases hb : b ≤ 10
      · rw [decide_eq_true hb, decide_eq_false (show ¬ 10 < (b : Int) by omega)]
        rfl
      · rw [decide_eq_false hb, decide_eq_true (show 10 < (b : Int) by omega)]
        rfl
    | receipt c b k n =>
      show (decide (10 < (b : Int)) || decide (100 < (n : Int))) = !(decide (b ≤ 10) && decide (n ≤ 100))
      have d1 : decide (10 < (b : Int)) = !decide (b ≤ 10) := by
        by_cases hb : b ≤ 10
        · rw [decide_eq_true hb, decide_eq_false (show ¬ 10 < (b : Int) by omega)]
          rfl
        · rw [decide_eq_false hb, decide_eq_true (show 10 < (b : Int) by omega)]
          rfl
      have d2 : decide (100 < (n : Int)) = !decide (n ≤ 100) := by
        by_cases hb : n ≤ 100
        · rw [decide_eq_true hb, decide_eq_false (show ¬ 100 < (n : Int) by omega)]
          rfl
        · rw [decide_eq_false hb, decide_eq_true (show 100 < (n : Int) by omega)]
          rfl
      rw [d1, d2, Bool.not_and]
theorem accepts_iff (hs : List Seen) : (verdict (hs.map sM)).headD 0 = 0 ↔ Vbkvad.accepts hs = true := by
  rw [verdict_eq]
  unfold Vbkvad.judgeRow Vbkvad.accepts
  cases h : Vbkvad.judge hs with
  | none => exact ⟨fun _ => rfl, fun _ => rfl⟩
  | some x =>
    obtain ⟨f, i⟩ := x
    have hf : f ≠ 0 := by
      have go : ∀ (l : List Seen) (j : Judged) (i : Nat) (f k : Nat), Vbkvad.firstFault j i l = some (f, k) → f ≠ 0 := by
        intro l
        induction l with
        | nil => intro j i f k hh; cases hh
        | cons e r ih =>
          intro j i f k hh
          have ef : Vbkvad.firstFault j i (e :: r) = if Vbkvad.faultOf j e = 0 then Vbkvad.firstFault (Vbkvad.judgeEvent j e) (i + 1) r else some (Vbkvad.faultOf j e, i) := rfl
          rw [ef] at hh
          split at hh
          · exact ih _ _ _ _ hh
          · rename_i hne
            have := Option.some.inj hh
            rw [Prod.mk.injEq] at this
            omega
      exact go hs _ 0 f i h
    constructor
    · intro q
      have : (f : Int) = 0 := q
      omega
    · intro q
      cases q
theorem schedule_exec (l : List Int) : Tz.schedule l = (if Vbkvad.SCHEDULE_INTEGERS < l.length then [-6] else match Vbkvad.decodeEvents l with
    | none => [-6]
    | some h => if Vbkvad.accepts h = false then [-7] else if h.all Vbkvad.isSmall = false then [-8] else nat (Vbkvad.schedule h).length :: (Vbkvad.schedule h).flatMap Vbkvad.stepRow) := by
  unfold Tz.schedule
  have hj : Vbkvad.SCHEDULE_INTEGERS = 200 := rfl
  rw [hj, decodeEvents_eq]
  by_cases h1 : 200 < l.length
  · rw [if_pos h1, if_pos (.inl h1)]
  · rw [if_neg h1]
    cases h2 : isEventList l with
    | false => rw [if_pos (.inr rfl), if_neg Bool.false_ne_true]
    | true =>
      rw [if_neg (fun q => q.elim h1 (by decide)), if_pos rfl]
      have hall := evl_all h2
      have es : fives l = ((fives l).map toS).map sM := (map_sM hall).symm
      have hin := in_all hall
      generalize (fives l).map toS = hs at es hin
      simp only [es]
      by_cases ha : Vbkvad.accepts hs = true
      · rw [if_neg (fun z => z ((accepts_iff hs).mpr ha)), if_neg (show ¬ Vbkvad.accepts hs = false by rw [ha]; decide), large_eq]
        cases hsm : hs.all Vbkvad.isSmall with
        | false => rfl
        | true =>
          rw [if_neg (by decide), if_neg (by decide), planned_eq hin, rows_len, nat_eq]
          congr 1
          omega
      · have hf : Vbkvad.accepts hs = false := by
          cases q : Vbkvad.accepts hs with
          | true => exact absurd q ha
          | false => rfl
        rw [if_pos (fun z => ha ((accepts_iff hs).mp z)), if_pos hf]
end Tz
/-! The pure law: the request's numbers as calls. -/
namespace Tz
/-! ### the numbers -/
def Shaped (c : List (List Int)) : Prop := ∃ (p : Int) (xs : List Int) (rs : List (List Int)) (n k : Nat), c = (p :: xs) :: rs ∧ PyVbkvad.shape p = some (n, k) ∧ xs.length = n ∧ rs.length = k
def ofRaw (c : List (List Int)) : Cl := match c with
  | (p :: xs) :: rs => ⟨p, xs, rs.headD []⟩
  | _ => ⟨0, [], []⟩
theorem shape_range {p : Int} {n k : Nat} (h : PyVbkvad.shape p = some (n, k)) : p = 0 ∨ p = 1 ∨ p = 2 ∨ p = 3 ∨ p = 4 ∨ p = 5 ∨ p = 6 ∨ p = 7 ∨ p = 8 ∨ p = 9 ∨ p = 10 ∨ p = 11 ∨ p = 12 ∨ p = 13 ∨ p = 14 ∨ p = 15 ∨ p = 16 ∨ p = 17 ∨ p = 18 ∨ p = 19 ∨ p = 20 ∨ p = 21 ∨ p = 22 ∨ p = 23 ∨ p = 24 := by
  by_cases hp : 0 ≤ p ∧ p ≤ 24
  · omega
  · exfalso
    unfold PyVbkvad.shape at h
    rw [if_neg (by omega), if_neg (by omega), if_neg (by omega), if_neg (by omega), if_neg (by omega), if_neg (by omega), if_neg (by omega), if_neg (by omega), if_neg (by omega), if_neg (by omega), if_neg (by omega), if_neg (by omega), if_neg (by omega), if_neg (by omega), if_neg (by omega), if_neg (by omega), if_neg (by omega), if_neg (by omega), if_neg (by omega), if_neg (by omega), if_neg (by omega), if_neg (by omega), if_neg (by omega), if_neg (by omega), if_neg (by omega)] at h
    cases h
theorem shape_counts {p : Int} {n k : Nat} (h : PyVbkvad.shape p = some (n, k)) : 0 ≤ p ∧ counts[p.toNat]? = some n ∧ k = if hasRow p = true then 1 else 0 := by
  rcases shape_range h with rfl | rfl | rfl | rfl | rfl | rfl | rfl | rfl | rfl | rfl | rfl | rfl | rfl | rfl | rfl | rfl | rfl | rfl | rfl | rfl | rfl | rfl | rfl | rfl | rfl <;>
  · obtain ⟨rfl, rfl⟩ := Prod.mk.inj (Option.some.inj h)
    exact ⟨by decide, rfl, by decide⟩
theorem row_some {l x s : List Int} (h : PyFlat.row l = some (x, s)) : l = ((x.length : Int) :: x) ++ s := by
  cases l with
  | nil => cases h
  | cons n r =>
    have e : PyFlat.row (n :: r) = if 0 ≤ n ∧ n.toNat ≤ r.length then some (r.take n.toNat, r.drop n.toNat) else none := rfl
    rw [e] at h
    split at h
    · rename_i hc
      obtain ⟨rfl, rfl⟩ := Prod.mk.inj (Option.some.inj h)
      have e : (((r.take n.toNat).length : Nat) : Int) = n := by
        rw [List.length_take]
        omega
      rw [e, List.cons_append, List.take_append_drop]
    · cases h
theorem call_some {p : Int} {r : List Int} {c : List (List Int)} {t : List Int} (h : PyFlat.call PyVbkvad.shape (p :: r) = some (c, t)) : p :: r = (ofRaw c).enc ++ t ∧ Shaped c := by
  unfold PyFlat.call at h
  cases hs : PyVbkvad.shape p with
  | none =>
    simp only [hs] at h
    cases h
  | some nk =>
    obtain ⟨n, k⟩ := nk
    simp only [hs] at h
    obtain ⟨h0, hcnt, hk⟩ := shape_counts hs
    by_cases hl : r.length < n
    · rw [if_pos hl] at h
      cases h
    · rw [if_neg hl] at h
      have hlen : (r.take n).length = n := by
        rw [List.length_take]
        omega
      cases hr : hasRow p with
      | false =>
        rw [hr, if_neg Bool.false_ne_true] at hk
        subst hk
        have e : PyFlat.rows 0 (r.drop n) = some ([], r.drop n) := rfl
        rw [e] at h
        obtain ⟨rfl, rfl⟩ := Prod.mk.inj (Option.some.inj h)
        refine ⟨?_, p, r.take n, [], n, 0, rfl, hs, hlen, rfl⟩
        show p :: r = (p :: (r.take n ++ Cl.tail ⟨p, r.take n, []⟩)) ++ r.drop n
        unfold Cl.tail
        rw [hr, if_neg Bool.false_ne_true, List.append_nil, List.cons_append, List.take_append_drop]
      | true =>
        rw [hr, if_pos rfl] at hk
        subst hk
        cases hrow : PyFlat.row (r.drop n) with
        | none =>
          have e : PyFlat.rows 1 (r.drop n) = none := by
            unfold PyFlat.rows
            rw [hrow]
          rw [e] at h
          cases h
        | some xs =>
          obtain ⟨x, s⟩ := xs
          have e : PyFlat.rows 1 (r.drop n) = some ([x], s) := by
            unfold PyFlat.rows
            rw [hrow]
            rfl
          rw [e] at h
          obtain ⟨rfl, rfl⟩ := Prod.mk.inj (Option.some.inj h)
          refine ⟨?_, p, r.take n, [x], n, 1, rfl, hs, hlen, rfl⟩
          show p :: r = (p :: (r.take n ++ Cl.tail ⟨p, r.take n, x⟩)) ++ s
          unfold Cl.tail
          rw [hr, if_pos rfl]
          have := row_some hrow
          rw [List.cons_append, List.append_assoc, ← this, List.take_append_drop]
theorem calls_some : ∀ (f : Nat) (l : List Int) (raw : List (List (List Int))), PyFlat.calls PyVbkvad.shape f l = some raw → encs (raw.map ofRaw) = l ∧ ∀ c ∈ raw, Shaped c
  | f, [], raw, h => by
    have e : PyFlat.calls PyVbkvad.shape f [] = some [] := by cases f <;> rfl
    rw [e] at h
    cases h
    exact ⟨rfl, fun c hc => (List.not_mem_nil hc).elim⟩
  | 0, p :: r, raw, h => by cases h
  | f + 1, p :: r, raw, h => by
    unfold PyFlat.calls at h
    cases hc : PyFlat.call PyVbkvad.shape (p :: r) with
    | none =>
      simp only [hc] at h
      cases h
    | some ct =>
      obtain ⟨c, t⟩ := ct
      simp only [hc] at h
      cases ht : PyFlat.calls PyVbkvad.shape f t with
      | none =>
        simp only [ht] at h
        cases h
      | some cs =>
        simp only [ht] at h
        cases h
        obtain ⟨e1, s1⟩ := call_some hc
        obtain ⟨e2, s2⟩ := calls_some f t cs ht
        refine ⟨?_, fun d hd => ?_⟩
        · rw [e1]
          show (ofRaw c).enc ++ encs (cs.map ofRaw) = _
          rw [e2]
        · rcases List.mem_cons.mp hd with rfl | hd
          · exact s1
          · exact s2 d hd
theorem whole_same (c : List (List Int)) : PyVbkvad.whole c = c := by
  unfold PyVbkvad.whole
  split <;> rfl
/-! ### each call -/
theorem judge_step {s : Vbkvad.State} (h : SInv s) (row : List Int) : ((absS s, Tz.judge row) : MState × List Int) = (absS (Vbkvad.execute s (.judge row)).1, (Vbkvad.execute s (.judge row)).2) ∧ SInv (Vbkvad.execute s (.judge row)).1 := by
  rw [judge_exec]
  have e : Vbkvad.execute s (.judge row) = if Vbkvad.JUDGE_INTEGERS < row.length then (s, [-6]) else match Vbkvad.decodeEvents row with
    | none => (s, [-6])
    | some h => (s, Vbkvad.judgeRow h) := rfl
  rw [e]
  by_cases q : Vbkvad.JUDGE_INTEGERS < row.length
  · rw [if_pos q, if_pos q]
    exact ⟨rfl, h⟩
  · rw [if_neg q, if_neg q]
    cases Vbkvad.decodeEvents row with
    | none => exact ⟨rfl, h⟩
    | some hs => exact ⟨rfl, h⟩
theorem schedule_step {s : Vbkvad.State} (h : SInv s) (row : List Int) : ((absS s, Tz.schedule row) : MState × List Int) = (absS (Vbkvad.execute s (.schedule row)).1, (Vbkvad.execute s (.schedule row)).2) ∧ SInv (Vbkvad.execute s (.schedule row)).1 := by
  rw [schedule_exec]
  have e : Vbkvad.execute s (.schedule row) = if Vbkvad.SCHEDULE_INTEGERS < row.length then (s, [-6]) else match Vbkvad.decodeEvents row with
    | none => (s, [-6])
    | some h => if Vbkvad.accepts h = false then (s, [-7]) else if h.all Vbkvad.isSmall = false then (s, [-8]) else (s, Vbkvad.nat (Vbkvad.schedule h).length :: (Vbkvad.schedule h).flatMap Vbkvad.stepRow) := rfl
  rw [e]
  by_cases q : Vbkvad.SCHEDULE_INTEGERS < row.length
  · rw [if_pos q, if_pos q]
    exact ⟨rfl, h⟩
  · rw [if_neg q, if_neg q]
    cases Vbkvad.decodeEvents row with
    | none => exact ⟨rfl, h⟩
    | some hs =>
      simp only
      by_cases q1 : Vbkvad.accepts hs = false
      · rw [if_pos q1, if_pos q1]
        exact ⟨rfl, h⟩
      · rw [if_neg q1, if_neg q1]
        by_cases q2 : hs.all Vbkvad.isSmall = false
        · rw [if_pos q2, if_pos q2]
          exact ⟨rfl, h⟩
        · rw [if_neg q2, if_neg q2]
          exact ⟨rfl, h⟩
/-- the shapes one by one -/
theorem len1 {xs : List Int} (h : xs.length = 1) : ∃ a, xs = [a] := List.length_eq_one_iff.mp h
theorem len2 {xs : List Int} (h : xs.length = 2) : ∃ a b, xs = [a, b] := by
  match xs, h with
  | [a, b], _ => exact ⟨a, b, rfl⟩
theorem len3 {xs : List Int} (h : xs.length = 3) : ∃ a b c, xs = [a, b, c] := by
  match xs, h with
  | [a, b, c], _ => exact ⟨a, b, c, rfl⟩
inductive Kind : List (List Int) → Prop
  | open' (a b c : Int) : Kind [[0, a, b, c]]
  | copy (a b : Int) : Kind [[1, a, b]]
  | step2 (p a b : Int) (h : p = 2 ∨ p = 3 ∨ p = 4 ∨ p = 5 ∨ p = 6 ∨ p = 8 ∨ p = 10 ∨ p = 11 ∨ p = 12) : Kind [[p, a, b]]
  | step1 (p a : Int) (h : p = 7 ∨ p = 9) : Kind [[p, a]]
  | run (a : Int) (r : List Int) : Kind [[13, a], r]
  | look1 (p a : Int) (h : p = 14 ∨ p = 21 ∨ p = 22) : Kind [[p, a]]
  | look2 (p a b : Int) (h : p = 15 ∨ p = 16 ∨ p = 17 ∨ p = 18 ∨ p = 19 ∨ p = 20) : Kind [[p, a, b]]
  | judge (r : List Int) : Kind [[23], r]
  | sched (r : List Int) : Kind [[24], r]
theorem kind_of {c : List (List Int)} (h : Shaped c) : Kind c := by
  obtain ⟨p, xs, rs, n, k, rfl, hs, hn, hk⟩ := h
  rcases shape_range hs with rfl | rfl | rfl | rfl | rfl | rfl | rfl | rfl | rfl | rfl | rfl | rfl | rfl | rfl | rfl | rfl | rfl | rfl | rfl | rfl | rfl | rfl | rfl | rfl | rfl <;>
  obtain ⟨rfl, rfl⟩ := Prod.mk.inj (Option.some.inj hs)
  · obtain ⟨a, b, c, rfl⟩ := len3 hn
    rw [List.length_eq_zero_iff.mp hk]
    exact .open' a b c
  · obtain ⟨a, b, rfl⟩ := len2 hn
    rw [List.length_eq_zero_iff.mp hk]
    exact .copy a b
  · obtain ⟨a, b, rfl⟩ := len2 hn
    rw [List.length_eq_zero_iff.mp hk]
    exact .step2 _ a b (by decide)
  · obtain ⟨a, b, rfl⟩ := len2 hn
    rw [List.length_eq_zero_iff.mp hk]
    exact .step2 _ a b (by decide)
  · obtain ⟨a, b, rfl⟩ := len2 hn
    rw [List.length_eq_zero_iff.mp hk]
    exact .step2 _ a b (by decide)
  · obtain ⟨a, b, rfl⟩ := len2 hn
    rw [List.length_eq_zero_iff.mp hk]
    exact .step2 _ a b (by decide)
  · obtain ⟨a, b, rfl⟩ := len2 hn
    rw [List.length_eq_zero_iff.mp hk]
    exact .step2 _ a b (by decide)
  · obtain ⟨a, rfl⟩ := len1 hn
    rw [List.length_eq_zero_iff.mp hk]
    exact .step1 _ a (by decide)
  · obtain ⟨a, b, rfl⟩ := len2 hn
    rw [List.length_eq_zero_iff.mp hk]
    exact .step2 _ a b (by decide)
  · obtain ⟨a, rfl⟩ := len1 hn
    rw [List.length_eq_zero_iff.mp hk]
    exact .step1 _ a (by decide)
  · obtain ⟨a, b, rfl⟩ := len2 hn
    rw [List.length_eq_zero_iff.mp hk]
    exact .step2 _ a b (by decide)
  · obtain ⟨a, b, rfl⟩ := len2 hn
    rw [List.length_eq_zero_iff.mp hk]
    exact .step2 _ a b (by decide)
  · obtain ⟨a, b, rfl⟩ := len2 hn
    rw [List.length_eq_zero_iff.mp hk]
    exact .step2 _ a b (by decide)
  · obtain ⟨a, rfl⟩ := len1 hn
    obtain ⟨r, rfl⟩ := List.length_eq_one_iff.mp hk
    exact .run a r
  · obtain ⟨a, rfl⟩ := len1 hn
    rw [List.length_eq_zero_iff.mp hk]
    exact .look1 _ a (by decide)
  · obtain ⟨a, b, rfl⟩ := len2 hn
    rw [List.length_eq_zero_iff.mp hk]
    exact .look2 _ a b (by decide)
  · obtain ⟨a, b, rfl⟩ := len2 hn
    rw [List.length_eq_zero_iff.mp hk]
    exact .look2 _ a b (by decide)
  · obtain ⟨a, b, rfl⟩ := len2 hn
    rw [List.length_eq_zero_iff.mp hk]
    exact .look2 _ a b (by decide)
  · obtain ⟨a, b, rfl⟩ := len2 hn
    rw [List.length_eq_zero_iff.mp hk]
    exact .look2 _ a b (by decide)
  · obtain ⟨a, b, rfl⟩ := len2 hn
    rw [List.length_eq_zero_iff.mp hk]
    exact .look2 _ a b (by decide)
  · obtain ⟨a, b, rfl⟩ := len2 hn
    rw [List.length_eq_zero_iff.mp hk]
    exact .look2 _ a b (by decide)
  · obtain ⟨a, rfl⟩ := len1 hn
    rw [List.length_eq_zero_iff.mp hk]
    exact .look1 _ a (by decide)
  · obtain ⟨a, rfl⟩ := len1 hn
    rw [List.length_eq_zero_iff.mp hk]
    exact .look1 _ a (by decide)
  · obtain ⟨r, rfl⟩ := List.length_eq_one_iff.mp hk
    rw [List.length_eq_zero_iff.mp hn]
    exact .judge r
  · obtain ⟨r, rfl⟩ := List.length_eq_one_iff.mp hk
    rw [List.length_eq_zero_iff.mp hn]
    exact .sched r
def Runs (s : Vbkvad.State) (c : List (List Int)) : Prop := answerOf (absS s) (ofRaw c).op (ofRaw c).ns (ofRaw c).row = (absS (VbkvadNeutral.step s c).1, (VbkvadNeutral.step s c).2) ∧ SInv (VbkvadNeutral.step s c).1
theorem exec_all {s : Vbkvad.State} (h : SInv s) {c : List (List Int)} (hk : Kind c) : Runs s c := by
  cases hk with
  | open' a b c => exact open_exec h a b c
  | copy a b => exact copy_exec h a b
  | step2 p a b hp =>
    rcases hp with rfl | rfl | rfl | rfl | rfl | rfl | rfl | rfl | rfl
    · exact step_exec h [] (op := 2) (at' := a) (a := b) (by decide) (by decide) (fun e => absurd e (by decide))
    · exact step_exec h [] (op := 3) (at' := a) (a := b) (by decide) (by decide) (fun e => absurd e (by decide))
    · exact step_exec h [] (op := 4) (at' := a) (a := b) (by decide) (by decide) (fun e => absurd e (by decide))
    · exact step_exec h [] (op := 5) (at' := a) (a := b) (by decide) (by decide) (fun e => absurd e (by decide))
    · exact step_exec h [] (op := 6) (at' := a) (a := b) (by decide) (by decide) (fun e => absurd e (by decide))
    · exact step_exec h [] (op := 8) (at' := a) (a := b) (by decide) (by decide) (fun e => absurd e (by decide))
    · exact step_exec h [] (op := 10) (at' := a) (a := b) (by decide) (by decide) (fun e => absurd e (by decide))
    · exact step_exec h [] (op := 11) (at' := a) (a := b) (by decide) (by decide) (fun e => absurd e (by decide))
    · by_cases hb : b ≤ 20
      · have e : VbkvadNeutral.step s [[12, a, b]] = Vbkvad.doStep s a b (.calm b.toNat) fun _ v => [Vbkvad.nat v.net.length] := by
          show (if Vbkvad.CALM < b then (s, [-1]) else Vbkvad.doStep s a b (.calm b.toNat) fun _ v => [Vbkvad.nat v.net.length]) = _
          exact if_neg (show ¬ (20 : Int) < b by omega)
        unfold Runs
        rw [e]
        exact step_exec h [] (op := 12) (at' := a) (a := b) (by decide) (by decide) (fun _ => hb)
      · have e : VbkvadNeutral.step s [[12, a, b]] = (s, [-1]) := by
          show (if Vbkvad.CALM < b then (s, [-1]) else Vbkvad.doStep s a b (.calm b.toNat) fun _ v => [Vbkvad.nat v.net.length]) = _
          exact if_pos (show (20 : Int) < b by omega)
        unfold Runs
        rw [e]
        refine ⟨?_, h⟩
        show inWorld (absS s) 12 a b [] = (absS s, [-1])
        unfold inWorld
        refine if_pos (.inr ?_)
        unfold isSecondOut
        rw [decide_eq_true (show (12 : Int) = 12 from rfl), decide_eq_true (show (20 : Int) < b by omega)]
        simp
  | step1 p a hp =>
    rcases hp with rfl | rfl
    · exact step_exec h [] (op := 7) (at' := a) (a := 0) (by decide) (by decide) (fun e => absurd e (by decide))
    · exact step_exec h [] (op := 9) (at' := a) (a := 0) (by decide) (by decide) (fun e => absurd e (by decide))
  | run a r => exact run_exec h a r
  | look1 p a hp =>
    rcases hp with rfl | rfl | rfl
    · exact look_exec h [] (op := 14) (at' := a) (a := 0) (by decide) Vbkvad.serviceRow fun _ w _ => lk_service 0
    · exact look_exec h [] (op := 21) (at' := a) (a := 0) (by decide) Vbkvad.statisticsRow fun _ w hw => lk_stat hw 0
    · exact look_exec h [] (op := 22) (at' := a) (a := 0) (by decide) (fun w => Vbkvad.nat (Vbkvad.restartValues w).length :: (Vbkvad.restartValues w).map Vbkvad.nat) fun _ w _ => lk_values 0
  | look2 p a b hp =>
    rcases hp with rfl | rfl | rfl | rfl | rfl | rfl
    · exact look_exec h [] (op := 15) (at' := a) (a := b) (by decide) (fun w => Vbkvad.clientRow w b.toNat) fun hb w hw => lk_client hw hb
    · exact look_exec h [] (op := 16) (at' := a) (a := b) (by decide) (fun w => Vbkvad.page b (w.net.map Vbkvad.packetRow)) fun hb w _ => lk_net hb
    · exact look_exec h [] (op := 17) (at' := a) (a := b) (by decide) (fun w => Vbkvad.page b (w.dater.outbox.map Vbkvad.packetRow)) fun hb w _ => lk_out hb
    · exact look_exec h [] (op := 18) (at' := a) (a := b) (by decide) (fun w => Vbkvad.page b (w.history.map Vbkvad.eventRow)) fun hb w _ => lk_trace hb
    · exact look_exec h [] (op := 19) (at' := a) (a := b) (by decide) (fun w => Vbkvad.page b ((Vbkvad.observed w.history).map Vbkvad.seenRow)) fun hb w _ => lk_history hb
    · exact look_exec h [] (op := 20) (at' := a) (a := b) (by decide) (fun w => Vbkvad.page b (Vbkvad.orderRows w.history)) fun hb w hw => lk_order hw hb
  | judge r => exact judge_step h r
  | sched r => exact schedule_step h r
end Tz
/-! The pure law: bounds of a request, the end. -/
namespace Tz
open VbkvadNeutral (asked1 isAllowed isShortList stepIntegers)
theorem allowed_lt {z : Int} (h : isAllowed z = true) : z < 2 ^ 61 := by
  unfold isAllowed at h
  rw [Bool.and_eq_true, decide_eq_true_eq, decide_eq_true_eq] at h
  have : (10 : Int) ^ 18 < 2 ^ 61 := by decide
  exact Int.lt_of_le_of_lt h.2 this
theorem short_lt {n : Nat} {l : List Int} (h : isShortList n l = true) : l.length ≤ n ∧ ∀ x ∈ l, x < 2 ^ 61 := by
  unfold isShortList at h
  rw [Bool.and_eq_true, decide_eq_true_eq] at h
  exact ⟨h.1, fun x hx => allowed_lt (List.all_eq_true.mp h.2 x hx)⟩
theorem two_lt {a b : Int} (h : (isAllowed a && isAllowed b) = true) : ∀ x ∈ [a, b], x < 2 ^ 61 := fun x hx => by
  rw [Bool.and_eq_true] at h
  rcases List.mem_cons.mp hx with rfl | hx
  · exact allowed_lt h.1
  · rw [List.mem_singleton.mp hx]
    exact allowed_lt h.2
theorem one_lt {a : Int} (h : isAllowed a = true) : ∀ x ∈ [a], x < 2 ^ 61 := fun x hx => by
  rw [List.mem_singleton.mp hx]
  exact allowed_lt h
theorem z20 : (0 : Nat) < 20000 := by decide
theorem nums_ok {c : List (List Int)} (hk : Kind c) (h : asked1 c = true) : (∀ x ∈ (ofRaw c).ns, x < 2 ^ 61) ∧ (∀ x ∈ (ofRaw c).row, x < 2 ^ 61) ∧ (ofRaw c).row.length < 20000 := by
  have no : ∀ x ∈ ([] : List Int), x < 2 ^ 61 := fun x hx => (List.not_mem_nil hx).elim
  cases hk with
  | open' a b c =>
    have h2 : (isAllowed a && (isAllowed b && isAllowed c)) = true := h
    rw [Bool.and_eq_true] at h2
    refine ⟨fun x hx => ?_, no, z20⟩
    rcases List.mem_cons.mp hx with rfl | hx
    · exact allowed_lt h2.1
    · exact two_lt h2.2 x hx
  | copy a b => exact ⟨two_lt h, no, z20⟩
  | step2 p a b hp => rcases hp with rfl | rfl | rfl | rfl | rfl | rfl | rfl | rfl | rfl <;> exact ⟨two_lt h, no, z20⟩
  | step1 p a hp => rcases hp with rfl | rfl <;> exact ⟨one_lt h, no, z20⟩
  | run a r =>
    have h2 : (isAllowed a && isShortList 1500 r) = true := h
    rw [Bool.and_eq_true] at h2
    obtain ⟨z1, z2⟩ := short_lt h2.2
    exact ⟨one_lt h2.1, z2, Nat.lt_of_le_of_lt z1 (by decide)⟩
  | look1 p a hp => rcases hp with rfl | rfl | rfl <;> exact ⟨one_lt h, no, z20⟩
  | look2 p a b hp => rcases hp with rfl | rfl | rfl | rfl | rfl | rfl <;> exact ⟨two_lt h, no, z20⟩
  | judge r =>
    obtain ⟨z1, z2⟩ := short_lt (n := 400) (l := r) h
    exact ⟨no, z2, Nat.lt_of_le_of_lt z1 (by decide)⟩
  | sched r =>
    obtain ⟨z1, z2⟩ := short_lt (n := 400) (l := r) h
    exact ⟨no, z2, Nat.lt_of_le_of_lt z1 (by decide)⟩
theorem cl_ok {c : List (List Int)} (hs : Shaped c) (h : asked1 c = true) : (ofRaw c).Ok := by
  obtain ⟨z1, z2, z3⟩ := nums_ok (kind_of hs) h
  obtain ⟨p, xs, rs, n, k, rfl, hsh, hn, hk⟩ := hs
  obtain ⟨q1, q2, q3⟩ := shape_counts hsh
  refine ⟨q1, ?_, fun hr => ?_, z1, z2, z3⟩
  · show counts[p.toNat]? = some xs.length
    rw [q2, hn]
  · have hr2 : hasRow p = false := hr
    rw [hr2, if_neg Bool.false_ne_true] at q3
    have : rs = [] := List.length_eq_zero_iff.mp (by omega)
    rw [this]
    rfl
/-! ### sizes -/
def GoodS (N : Nat) (st : MState) : Prop := ∀ (i : Nat) (m : MWorld), st[i]? = some (some m) → Good N m
theorem GoodS.mono {N N' : Nat} {st : MState} (h : GoodS N st) (hn : N ≤ N') : GoodS N' st := fun i m hm => (h i m hm).mono hn
theorem GoodS.set {N : Nat} {st : MState} (h : GoodS N st) {m : MWorld} (hm : Good N m) (k : Nat) : GoodS N (st.set k (some m)) := fun i x hx => by
  rw [List.getElem?_set] at hx
  split at hx
  · split at hx
    · have := Option.some.inj (Option.some.inj hx)
      rw [← this]
      exact hm
    · cases hx
  · exact h i x hx
theorem GoodS.at {N : Nat} {st : MState} (h : GoodS N st) {i : Int} {m : MWorld} (hm : stAt st i = some m) : Good N m := by
  unfold stAt at hm
  cases q : st[i.toNat]? with
  | none =>
    rw [q] at hm
    cases hm
  | some o =>
    rw [q] at hm
    have : o = some m := hm
    rw [this] at q
    exact h _ _ q
theorem good_open {N : Nat} {st : MState} (h : GoodS N st) (a b c : Int) : GoodS N (openWorld st a b c).1 := by
  unfold openWorld
  split
  · exact h
  · split
    · exact h
    · exact h.set ((fresh_good b c).mono (Nat.zero_le _)) _
theorem good_copy {N : Nat} {st : MState} (h : GoodS N st) (a b : Int) : GoodS N (copyWorld st a b).1 := by
  unfold copyWorld
  split
  · exact h
  · cases q : stAt st a with
    | none => exact h
    | some m => exact h.set (h.at q) _
theorem good_in {N : Nat} {st : MState} (h : GoodS N st) (op at' a : Int) (row : List Int) (k : Nat) (hk : op = 13 → row.length ≤ k) : GoodS (N + (5 + 5 * k)) (inWorld st op at' a row).1 := by
  have hm : GoodS (N + (5 + 5 * k)) st := h.mono (by omega)
  unfold inWorld
  by_cases hb : isPlace at' = false ∨ isSecondOut op a = true
  · rw [if_pos hb]
    exact hm
  · rw [if_neg hb]
    have ha : 0 ≤ a := by
      by_cases q : a < 0
      · have e : isSecondOut op a = true := by
          unfold isSecondOut
          rw [decide_eq_true q] <;> rfl
        exact absurd (Or.inr e) hb
      · omega
    cases q : stAt st at' with
    | none => exact hm
    | some m =>
      simp only
      have g := h.at q
      by_cases h12 : op < 13
      · rw [if_pos h12]
        exact hm.set ((change_good g op a ha).mono (by omega)) _
      · rw [if_neg h12]
        by_cases h13 : op = 13
        · rw [if_pos h13]
          refine hm.set ((runSteps_good g row).mono ?_) _
          have h1 := pairsOf_len row
          have h2 := hk h13
          omega
        · rw [if_neg h13]
          exact hm
def cost (c : List (List Int)) : Nat := 5 + 5 * stepIntegers c
theorem good_call {N : Nat} {st : MState} (h : GoodS N st) {c : List (List Int)} (hk : Kind c) : GoodS (N + cost c) (answerOf st (ofRaw c).op (ofRaw c).ns (ofRaw c).row).1 := by
  have h0 : ∀ k, GoodS (N + (5 + k)) st := fun k => h.mono (by omega)
  cases hk with
  | open' a b c => exact (good_open h a b c).mono (by unfold cost; omega)
  | copy a b => exact (good_copy h a b).mono (by unfold cost; omega)
  | step2 p a b hp => rcases hp with rfl | rfl | rfl | rfl | rfl | rfl | rfl | rfl | rfl <;> exact good_in h _ a b [] 0 fun _ => Nat.le_refl _
  | step1 p a hp => rcases hp with rfl | rfl <;> exact good_in h _ a 0 [] 0 fun _ => Nat.le_refl _
  | run a r => exact good_in h 13 a 0 r r.length fun _ => Nat.le_refl _
  | look1 p a hp => rcases hp with rfl | rfl | rfl <;> exact good_in h _ a 0 [] 0 fun _ => Nat.le_refl _
  | look2 p a b hp => rcases hp with rfl | rfl | rfl | rfl | rfl | rfl <;> exact good_in h _ a b [] 0 fun _ => Nat.le_refl _
  | judge r => exact h0 _
  | sched r => exact h0 _
theorem kinds_abs (w : Vbkvad.World) : ∀ r ∈ (abs w).trace, 0 ≤ r.k ∧ r.k < 7 := fun r hr => by
  obtain ⟨e, _, rfl⟩ := List.mem_map.mp hr
  cases e <;> exact ⟨of_decide_eq_true rfl, of_decide_eq_true rfl⟩
theorem stOk_of {N : Nat} {s : Vbkvad.State} (h : SInv s) (g : GoodS N (absS s)) : StOk N (absS s) := fun i m hm => by
  refine ⟨g i m hm, ?_⟩
  unfold absS at hm
  rw [List.getElem?_map] at hm
  cases q : s.worlds[i]? with
  | none =>
    rw [q] at hm
    cases hm
  | some o =>
    rw [q] at hm
    cases o with
    | none => cases hm
    | some w =>
      have e : abs w = m := Option.some.inj (Option.some.inj hm)
      rw [← e]
      have hi := h.ok i w q
      refine ⟨kinds_abs w, ?_⟩
      rw [abs_len]
      exact Nat.le_trans hi.size (by decide)
theorem run_all : ∀ (raw : List (List (List Int))) (s : Vbkvad.State) (N : Nat) (acc : List Int), SInv s → GoodS N (absS s) → (∀ c ∈ raw, Kind c) →
    ∃ s', ((raw.map ofRaw).foldl callOn (absS s, acc)).1 = absS s' ∧ SInv s' ∧ GoodS (N + (raw.map cost).sum) (absS s') ∧ ((raw.map ofRaw).foldl callOn (absS s, acc)).2 = acc ++ PyFlat.told (PyFlat.played VbkvadNeutral.step s raw)
  | [], s, N, acc, h, g, _ => ⟨s, rfl, h, g, (List.append_nil acc).symm⟩
  | c :: r, s, N, acc, h, g, hk => by
    obtain ⟨e, i⟩ := exec_all h (hk c List.mem_cons_self)
    have g2 := good_call g (hk c List.mem_cons_self)
    rw [e] at g2
    have ec : callOn (absS s, acc) (ofRaw c) = (absS (VbkvadNeutral.step s c).1, acc ++ ((VbkvadNeutral.step s c).2.length : Int) :: (VbkvadNeutral.step s c).2) := by
      unfold callOn
      rw [e]
    obtain ⟨s', q1, q2, q3, q4⟩ := run_all r (VbkvadNeutral.step s c).1 (N + cost c) (acc ++ ((VbkvadNeutral.step s c).2.length : Int) :: (VbkvadNeutral.step s c).2) i g2 fun d hd => hk d (List.mem_cons_of_mem _ hd)
    rw [List.map_cons, List.foldl_cons, ec]
    refine ⟨s', q1, q2, q3.mono ?_, ?_⟩
    · rw [List.map_cons, List.sum_cons]
      omega
    · rw [q4, List.append_assoc]
      rfl
theorem cost_sum : ∀ raw : List (List (List Int)), (raw.map cost).sum = 5 * raw.length + 5 * (raw.map stepIntegers).sum
  | [] => rfl
  | c :: r => by
    rw [List.map_cons, List.sum_cons, cost_sum r, List.map_cons, List.sum_cons, List.length_cons]
    unfold cost
    omega
theorem sum_take (raw : List (List (List Int))) (i : Nat) : ((raw.take i).map stepIntegers).sum ≤ (raw.map stepIntegers).sum := by
  have e : (raw.map stepIntegers).sum = ((raw.take i).map stepIntegers).sum + ((raw.drop i).map stepIntegers).sum := by
    rw [← List.sum_append, ← List.map_append, List.take_append_drop]
  omega
theorem told_grow : ∀ (cs : List Cl) (x : MState × List Int), x.2.length ≤ (cs.foldl callOn x).2.length
  | [], x => Nat.le_refl _
  | c :: r, x => by
    rw [List.foldl_cons]
    refine Nat.le_trans ?_ (told_grow r _)
    unfold callOn
    rw [List.length_append]
    omega
theorem pureLaw (l : List Int) (h : PyVbkvad.answers_asked l = true) : ∃ cs : List Cl, encs cs = l ∧ RunOk cs ∧ (runTo cs).2 = PyVbkvad.answers l := by
  unfold PyVbkvad.answers_asked at h
  cases hc : PyFlat.calls PyVbkvad.shape l.length l with
  | none =>
    rw [hc] at h
    cases h
  | some raw =>
    rw [hc] at h
    simp only [Bool.and_eq_true] at h
    obtain ⟨⟨⟨⟨_, h2⟩, _⟩, h4⟩, h5⟩ := h
    have ew : raw.map PyVbkvad.whole = raw := (List.map_congr_left fun c _ => whole_same c).trans (List.map_id _)
    rw [ew] at h4
    obtain ⟨e1, sh⟩ := calls_some _ l raw hc
    unfold VbkvadNeutral.asked at h4
    simp only [Bool.and_eq_true, decide_eq_true_eq] at h4
    obtain ⟨h41, h42, h43, h44⟩ := h4
    have hall := List.all_eq_true.mp h41
    have hk : ∀ c ∈ raw, Kind c := fun c hc => kind_of (sh c hc)
    have g0 : GoodS 0 (absS Vbkvad.start) := fun i m hm => by
      match i, hm with
      | 0, hm | 1, hm | 2, hm | 3, hm => cases hm
      | i + 4, hm => cases hm
    have er : runTo (raw.map ofRaw) = (raw.map ofRaw).foldl callOn (absS Vbkvad.start, []) := rfl
    have ea : PyVbkvad.answers l = PyFlat.told (PyFlat.played VbkvadNeutral.step VbkvadNeutral.start raw) := by
      unfold PyVbkvad.answers PyVbkvad.calls
      rw [hc]
      simp only [ew]
    have efin : (runTo (raw.map ofRaw)).2 = PyVbkvad.answers l := by
      obtain ⟨s', _, _, _, q4⟩ := run_all raw Vbkvad.start 0 [] SInv.start g0 hk
      rw [er, q4, ea]
      rfl
    have hlen : (PyVbkvad.answers l).length ≤ 10000000 := by
      have := h5
      unfold PyFlat.short at this
      exact of_decide_eq_true this
    refine ⟨raw.map ofRaw, e1, ⟨fun cl hcl => ?_, fun i hi => ?_, fun i hi => ?_, mem_ok⟩, efin⟩
    · obtain ⟨c, hcm, rfl⟩ := List.mem_map.mp hcl
      exact cl_ok (sh c hcm) (hall c hcm)
    · obtain ⟨s', q1, q2, q3, _⟩ := run_all (raw.take i) Vbkvad.start 0 [] SInv.start g0 fun c hcm => hk c (List.mem_of_mem_take hcm)
      refine ⟨0 + ((raw.take i).map cost).sum, ?_, ?_⟩
      · rw [← List.map_take]
        have er2 : runTo ((raw.take i).map ofRaw) = ((raw.take i).map ofRaw).foldl callOn (absS Vbkvad.start, []) := rfl
        rw [er2, q1]
        exact stOk_of q2 q3
      · rw [cost_sum]
        have := sum_take raw i
        have hl : (raw.take i).length ≤ raw.length := by
          rw [List.length_take]
          omega
        omega
    · refine Nat.le_trans ?_ hlen
      rw [← efin]
      have e : raw.map ofRaw = (raw.map ofRaw).take i ++ (raw.map ofRaw).drop i := (List.take_append_drop _ _).symm
      have e2 : runTo (raw.map ofRaw) = ((raw.map ofRaw).drop i).foldl callOn (runTo ((raw.map ofRaw).take i)) := by
        unfold runTo
        rw [← List.foldl_append, ← e]
      rw [e2]
      exact told_grow _ _
end Tz
namespace Tz
open PySem PySem.Spec PyProof.Rows L2
/-- the pure law: what the request's numbers are as calls, and what the mirror answers -/
def PureLaw : Prop := ∀ l : List Int, PyVbkvad.answers_asked l = true → ∃ cs : List Cl, encs cs = l ∧ RunOk cs ∧ (runTo cs).2 = PyVbkvad.answers l
open PySem.W (Codec)
theorem walkZ {q : Program} {loose : List Str} {XP : (Str → Option Value) → Heap → Prop} {d : DefRec} (pl : PureLaw) (hwell : hR.wellSaid = true) (hdf : d.params.defaults = []) (hlen : hR.args.length = (["calls"] : List Str).length) (hr : Room 12 callerA) (hn : d.name = ("answers" : Str)) :
    PySem.W.WalkOS q loose XP hookZ.says hR d [] (fun f vs => PySem.call f vs) := by
  intro w s₀ s₁ mg mb G Y
  obtain ⟨K0, KX, c1, c2⟩ := Y
  refine L2.walk_spec (r := hR) (k := 12) (CX := fun _ => L2.CX0) (ps := ["calls"]) (sp := fun _ => sp_answers K0 (caZ K0)) (YP := fun _ h => K0.In h) (K := fun _ => K0) hwell hdf hlen hr (fun _ _ Y => Y) ?F ?S (fun _ _ _ _ _ z => z) w s₀ s₁ mg mb G KX
  case F =>
    intro w mg fa h Y KX G hmg
    rw [hn] at hmg
    obtain ⟨fd, F⟩ := fun_of c1 (st := s_answers) (at_ := ("answers", none)) (x := "answers") (qual := "answers") 85 rfl (He.keep_ok (c1.fact 134 rfl))
    have e := hmg.symm.trans (He.glo_ok KX G (c1.fact 133 rfl))
    cases e
    have T := txtZ KX G c1 c2
    refine ⟨fd, fun s us hu => match us, hu with | [u], _ => ?_, fun base KB GB => ok_answers F T (d_answer_of KX G c1 c2) (d_has_row KX G c1 c2)⟩
    have b : Binds K0 fd ["calls"] [] := F.binds fun _ _ _ _ _ _ us hl => match us, hl with | [_], _ => rfl
    obtain ⟨oc, od, kV, doc, pm, an, cdv, ct, osl, e, lk, hcd⟩ := F.ex
    subst e
    exact .of_eq rfl
  case S =>
    intro w H xs a hO hwi hask hx
    cases hx with
    | cons h1 h2 =>
      cases h2
      cases h1 with
      | lst hs ha =>
        have e := L2.ints_dw a.1 _ ha
        subst e
        have q : PyVbkvad.answers_asked a.1 = true := hask
        obtain ⟨cs, e1, e2, e3⟩ := pl a.1 q
        refine ⟨_, cs, rfl, ?_, e2, fun H' p hp => ?_⟩
        · rw [e1]
          exact hs
        · rw [e3] at hp
          exact .lst (L2.SqL.of hp) (L2.dw_ints _)
theorem headZ (pl : PureLaw) : hR.Holds := by
  refine HandSHeadRun.head_spec (r := hR) (q := hQ) (H := hookZ) (ob := obZ) (M := 6000) (loose := hnames) (d := HandSHeadRun.topDef hR.prog 123) (kwd := []) obZ_eq (by kernel_rfl) (fun s => by kernel_rfl) hrun (by kernel_rfl) (by kernel_rfl) (by kernel_rfl) PySem.W.os_shapes (by first | assumption | decide +kernel) (by decide +kernel) ⟨rfl, rfl, rfl, rfl, rfl, by decide +kernel⟩ ?hw ?hc
  case hw => exact ⟨[.list [.int 23, .int 0]], by decide +kernel, by decide +kernel⟩
  case hc => exact walkZ pl (by decide +kernel) (by kernel_rfl) rfl ⟨rfl, by decide, by decide⟩ (by kernel_rfl)
end Tz
theorem PySem.Challenge.cw_timestampservice_s01_answers_holds : PySem.Challenge.rw_timestampservice_s01_answers.Holds := by
  exact Tz.headZ Tz.pureLaw
