/-
  CatN: what functions compute, plainly: their contracts.
-/
import Derived.Test.YtiobnfdbeedjaaaGreatC5
set_option linter.unusedVariables false
set_option linter.unusedSimpArgs false
namespace Go.Cat
open Go

def b1 (b : Bool) : Option (Bool × Unit) := some (b, ())
def e1 (n : Int) : Option (Int × Unit) := some (n, ())

/- numbers and places -/
def N_ref07_in (x : Int × (Int × (Int × Unit))) : Option (Bool × Unit) := b1 (decide (x.2.1 ≤ x.1) && decide (x.1 ≤ x.2.2.1))
def N_place_within (x : List Bound × Unit) : Option (Bool × Unit) := b1 (x.1.all fun b => !(decide (b.a < b.b)) && !(decide (b.a > b.c)))
def mayConf (c : Config) : Bool :=
  decide (1 ≤ c.pairs) && decide (c.pairs ≤ 3) && decide (1 ≤ c.tracks) && decide (c.tracks ≤ 16) && decide (c.pairs + 2 ≤ c.area) && decide (c.area ≤ 32) && decide (1 ≤ c.most) && decide (c.most ≤ c.pairs) &&
    decide (1 ≤ c.window) && decide (c.window ≤ 4) && decide (4 ≤ c.quiet) && decide (c.quiet ≤ 64)
def N_ref07_May (x : Config × Unit) : Option (Bool × Unit) := b1 (mayConf x.1)
def N_place_Check (x : Config × Unit) : Option (Int × Unit) := e1 (if mayConf x.1 = true then 0 else 8)
def many (c : Config) : Int := if c.tracks > 8 then 2 else 1
def N_ref07_Many (x : Config × Unit) : Option (Int × Unit) := e1 (many x.1)
def N_place_pages (x : Config × Unit) : Option (Int × Unit) := if mayConf x.1 = true then e1 (many x.1) else none
def N_place_part_size (x : Part × Unit) : Option (Int × Unit) := e1 (IntKind.wrap .i64 (IntKind.wrap .i64 (x.1.owners * x.1.many) * x.1.own))
def sizeC (c : Config) : Int := 2 + 2 * c.area + c.pairs * many c + 4 * c.pairs * c.tracks
def N_ref07_first (x : Config × Unit) : Option (Int × (Int × (Int × (Int × Unit)))) :=
  if mayConf x.1 = true then some (2, (2 + 2 * x.1.area, (2 + 2 * x.1.area + x.1.pairs * many x.1, (sizeC x.1, ())))) else none
def N_ref07_Size (x : Config × Unit) : Option (Int × Unit) := if mayConf x.1 = true then e1 (sizeC x.1) else none
def N_place_Sectors (x : Config × Unit) : Option (Int × (Int × Unit)) := if mayConf x.1 = true then some (sizeC x.1, (0, ())) else some (0, (8, ()))

/- disks -/
def N_ref05_blank (x : List Int × Unit) : Option (Bool × Unit) := b1 (x.1.all fun b => b == 0)
def N_disk_sized (x : List (List Int) × Unit) : Option (Bool × Unit) := b1 (x.1.all fun b => b.length == 32)
def N_disk_none (_ : Unit) : Option (List Int × Unit) := some (List.replicate 32 0, ())
def N_bytes_Equal (x : List Int × (List Int × Unit)) : Option (Bool × Unit) := b1 (x.1 == x.2.1)
def maySector (s : Sector) : Bool := s.bytes.length == 32 && (!s.bad || s.bytes.all fun b => b == 0)
def mayPend (n : Nat) (p : Pend) : Bool := decide (0 ≤ p.at_) && decide (p.at_ < (n : Int)) && p.bytes.length == 32
def mayDisk (d : Disk) : Bool :=
  decide (1 ≤ d.sectors.length) && decide (d.sectors.length ≤ 1024) && decide (d.cache.length ≤ 64) && d.sectors.all maySector && d.cache.all (mayPend d.sectors.length)
def N_ref05_May (x : Disk × Unit) : Option (Bool × Unit) := b1 (mayDisk x.1)
def N_disk_Check (x : Disk × Unit) : Option (Int × Unit) := e1 (if mayDisk x.1 = true then 0 else 8)
def mayVol (c : Config) (d : Disk) : Bool := mayConf c && ((d.sectors.length : Int) == sizeC c) && mayDisk d
def N_ref08_May (x : Config × (Disk × Unit)) : Option (Bool × Unit) := b1 (mayVol x.1 x.2.1)
def N_track_Check (x : Config × (Disk × Unit)) : Option (Int × Unit) := e1 (if mayVol x.1 x.2.1 = true then 0 else 8)
def smallDisk (m : Int) (d : Disk) : Bool :=
  decide ((d.sectors.length : Int) ≤ m) && decide (d.cache.length ≤ 100) && d.sectors.all (fun s => decide (s.bytes.length ≤ 100)) && d.cache.all (fun p => decide (p.bytes.length ≤ 100))
def N_ref05_Great (x : Disk × (Int × Unit)) : Option (Bool × Unit) := if 0 ≤ x.2.1 ∧ x.2.1 ≤ 1000 then b1 (!smallDisk x.2.1 x.1) else none
def fitDisk (d : Disk) : Bool := decide (d.sectors.length ≤ 1000000) && decide (d.cache.length ≤ 1000000) && d.sectors.all (fun s => decide (s.bytes.length ≤ 1000000)) && d.cache.all (fun p => decide (p.bytes.length ≤ 1000000))
def N_ref05_Twin (x : Disk × Unit) : Option (Disk × Unit) := if fitDisk x.1 = true then some (x.1, ()) else none
def N_ref05_Same (x : Disk × (Disk × Unit)) : Option (Bool × Unit) := if x.1 = x.2.1 then b1 true else none
def fated (secs : List Sector) (p : Pend) (f : Int) : List Sector :=
  if f % 3 = 1 then secs.set p.at_.toNat ⟨p.bytes, false⟩ else if f % 3 = 2 then secs.set p.at_.toNat ⟨List.replicate 32 0, true⟩ else secs
def behindN (d : Disk) (l : List Int) : Nat → List Sector
  | 0 => d.sectors
  | k + 1 => fated (behindN d l k) (nth d.cache k) (nth l k)
def behind (d : Disk) (l : List Int) : Disk := ⟨behindN d l (min d.cache.length l.length), []⟩
def N_ref05_Behind (x : Disk × (List Int × Unit)) : Option (Disk × Unit) := if mayDisk x.1 = true then some (behind x.1 x.2.1, ()) else none
def N_disk_Crash (x : Disk × (List Int × Unit)) : Option (Disk × (Int × Unit)) := if mayDisk x.1 = true then some (behind x.1 x.2.1, (0, ())) else some (⟨[], []⟩, (8, ()))
def N_slices_Clone_byte_byte (x : List Int × Unit) : Option (List Int × Unit) := if x.1.length ≤ big then some x else none

/- records -/
def mayRec (r : Rec) : Bool :=
  decide (0 ≤ r.pair) && decide (r.pair ≤ 2) && decide (1 ≤ r.born) && decide (1 ≤ r.epoch) && (decide (r.lead = 0) || decide (r.lead = 1)) && (decide (r.from_ = 0) || decide (r.from_ = 1)) && decide (1 ≤ r.phase) && decide (r.phase ≤ 3) &&
    (decide (r.phase = 1) || decide (r.from_ = r.lead)) && (!r.quick || (decide (r.phase = 1) && !decide (r.from_ = r.lead)))
def N_rec_site (x : List Int × Unit) : Option (Bool × Unit) := b1 (x.1.all fun n => n == 0 || n == 1)
def N_rec_Check (x : Rec × Unit) : Option (Int × Unit) := e1 (if mayRec x.1 = true then 0 else 110)
def N_ref11_May (x : Rec × Unit) : Option (Bool × Unit) := b1 (mayRec x.1)
def mayRow (t : List Rec) (i : Nat) : Bool := mayRec (nth t i) && (i == 0 || decide ((nth t (i - 1)).pair < (nth t i).pair))
def mayTable (t : List Rec) : Bool := (List.range' 0 t.length).all (mayRow t)
def N_ref11_MayAll (x : List Rec × Unit) : Option (Bool × Unit) := b1 (mayTable x.1)
def N_rec_sizes (_ : Unit) : Option (List Int × Unit) := some ([1, 1, 4, 4, 1, 1, 1, 1], ())
/-- A number's digits, the greatest first. -/
def be (n : Int) (s : Nat) : List Int := (List.range s).map fun i => (n / 256 ^ (s - 1 - i)) % 256
def rows (l ss : List Int) : Nat → List Int
  | 0 => []
  | k + 1 => rows l ss k ++ be (nth l k) (nth ss k).toNat
def offs (ss : List Int) : Nat → Nat
  | 0 => 0
  | k + 1 => offs ss k + (nth ss k).toNat
def rowOf (l ss : List Int) : List Int := rows l ss l.length
def fitsAt (l ss : List Int) (k : Nat) : Bool := decide (1 ≤ nth ss k) && decide (nth ss k ≤ 8) && decide (0 ≤ nth l k) && decide (nth l k < 256 ^ (nth ss k).toNat)
def fitsRow (l ss : List Int) : Bool := l.length == ss.length && decide (ss.length ≤ 16) && (List.range' 0 l.length).all (fitsAt l ss)
def N_num_Write (x : List Int × (List Int × Unit)) : Option (List Int × (Int × Unit)) := if fitsRow x.1 x.2.1 = true then some (rowOf x.1 x.2.1, (0, ())) else none
def flagsOf (r : Rec) : Int := (if r.quick = true then 2 else 0) + (if r.alone = true then 1 else 0)
def noteOf (r : Rec) : List Int := rowOf [1, r.pair, r.born, r.epoch, r.lead, r.phase, r.from_, flagsOf r] [1, 1, 4, 4, 1, 1, 1, 1]
def N_rec_Note (x : Rec × Unit) : Option (List Int × (Int × Unit)) := if mayRec x.1 = true then some (noteOf x.1, (0, ())) else some ([], (110, ()))
def N_rec_Notes (x : List Rec × Unit) : Option (List (List Int) × (Int × Unit)) := if x.1.length ≤ 1000000 then (if mayTable x.1 = true then some (x.1.map noteOf, (0, ())) else some ([], (110, ()))) else none

/- what is known -/
def mayMeta (c : Config) (m : Meta) : Bool :=
  mayConf c && decide (0 ≤ m.super.area) && decide (m.super.area ≤ 1) && decide (0 ≤ m.count) && decide (m.count ≤ c.area) && decide (0 ≤ m.turn) && decide (m.turn ≤ 65535) && mayTable m.table
def N_ref12_May (x : Config × (Meta × Unit)) : Option (Bool × Unit) := b1 (mayMeta x.1 x.2.1)
def N_meta_Check (x : Config × (Meta × Unit)) : Option (Int × Unit) := if x.2.1.table.length ≤ 1000000 then e1 (if mayMeta x.1 x.2.1 = true then 0 else 8) else none
def N_ref12_Twin (x : Meta × Unit) : Option (Meta × Unit) := if x.1.table.length ≤ 1000000 then some x else none
def N_ref12_Same (x : Meta × (Meta × Unit)) : Option (Bool × Unit) := if x.1 = x.2.1 then b1 true else none
def N_ref11_Same (x : List Rec × (List Rec × Unit)) : Option (Bool × Unit) := if x.1 = x.2.1 then b1 true else none

/- queues and ends -/
def fitAll (l : List (List Int)) : Bool := decide (l.length ≤ 1000000) && l.all fun b => decide (b.length ≤ 1000000)
def place (q : Queue) (k : Nat) : Nat := (q.head.toNat + k) % q.items.length
def mayQueue (q : Queue) : Bool :=
  decide (1 ≤ q.items.length) && decide (q.items.length ≤ 64) && decide (0 ≤ q.head) && decide (q.head < (q.items.length : Int)) && decide (0 ≤ q.many) && decide (q.many ≤ (q.items.length : Int)) &&
    (List.range' q.many.toNat (q.items.length - q.many.toNat)).all fun k => (nth q.items (place q k)).length == 0
def queueList (q : Queue) : List (List Int) := (List.range q.many.toNat).map fun k => nth q.items (place q k)
def N_ref04_May (x : Queue × Unit) : Option (Bool × Unit) := b1 (mayQueue x.1)
def N_ring_Check (x : Queue × Unit) : Option (Int × Unit) := e1 (if mayQueue x.1 = true then 0 else 8)
def N_ring_round_byte_at (x : Round × (Int × Unit)) : Option (Int × Unit) := if x.1.all.length = 0 then none else e1 (Int.tmod (IntKind.wrap .i64 (x.1.from_ + x.2.1)) x.1.all.length)
def N_ref04_List (x : Queue × Unit) : Option (List (List Int) × (Int × Unit)) := if fitAll x.1.items = true then (if mayQueue x.1 = true then some (queueList x.1, (0, ())) else some ([], (8, ()))) else none
def N_ring_List (x : Queue × Unit) : Option (List (List Int) × (Int × Unit)) := N_ref04_List x
def N_ref04_TwinAll (x : List (List Int) × Unit) : Option (List (List Int) × Unit) := if fitAll x.1 = true then some x else none
def N_ref04_SameAll (x : List (List Int) × (List (List Int) × Unit)) : Option (Bool × Unit) := if x.1 = x.2.1 then b1 true else none
def N_ref04_Same (x : Queue × (Queue × Unit)) : Option (Bool × Unit) := if x.1 = x.2.1 then b1 true else none
def mayTexts (l : List (List Int)) : Bool := l.all fun b => decide (1 ≤ b.length) && decide (b.length ≤ 64)
def mayEnd (c : Config) (e : End) : Bool :=
  mayConf c && mayQueue e.out && !decide (e.me = 0) && (e.out.items.length == 64) && decide (e.done ≤ e.sent) && (IntKind.wrap .u32 (e.sent - e.done) == IntKind.wrap .u32 e.out.many) && mayTexts (queueList e.out) && decide (0 ≤ e.quiet) && decide (e.quiet < c.quiet) &&
    !(decide (e.you = 0) && e.up) && !(e.dead && !decide (e.you = 0)) && (e.up || (decide (e.sent = 0) && decide (e.done = 0) && decide (e.got = 0)))
def N_ref17_May (x : Config × (End × Unit)) : Option (Bool × Unit) := if fitAll x.2.1.out.items = true then b1 (mayEnd x.1 x.2.1) else none
def N_sess_Check (x : Config × (End × Unit)) : Option (Int × Unit) := if fitAll x.2.1.out.items = true then e1 (if mayEnd x.1 x.2.1 = true then 0 else 8) else none
def N_ref17_Twin (x : End × Unit) : Option (End × Unit) := if fitAll x.1.out.items = true then some x else none
def N_ref17_Same (x : End × (End × Unit)) : Option (Bool × Unit) := if x.1 = x.2.1 then b1 true else none

/- sets -/
def mayN (n : Int) : Bool := decide (1 ≤ n) && decide (n ≤ 16)
def allBytes (n : Int) : List Int := if n < 8 then [2 ^ n.toNat - 1] else if n = 8 then [255] else [255, 2 ^ (n - 8).toNat - 1]
def N_bits_All (x : Int × Unit) : Option (List Int × (Int × Unit)) := if mayN x.1 = true then some (allBytes x.1, (0, ())) else some ([], (2, ()))
def bitsOk (n : Int) (s : List Int) : Bool := mayN n && s.length == (allBytes n).length && (List.range' 0 s.length).all fun i => ibits .andNot .u8 (nth s i) (nth (allBytes n) i) == 0
def N_bits_Check (x : Int × (List Int × Unit)) : Option (Int × Unit) := e1 (if mayN x.1 = true then (if bitsOk x.1 x.2.1 = true then 0 else 8) else 2)
def hasBit (s : List Int) (t : Nat) : Bool := decide (t / 8 < s.length) && ((nth s (t / 8) / 2 ^ (t % 8)) % 2 == 1)
def N_ref03_In (x : List Int × (Int × Unit)) : Option (Bool × Unit) := if 0 ≤ x.2.1 ∧ x.2.1 ≤ 1000 then b1 (hasBit x.1 x.2.1.toNat) else none
def N_ref03_May (x : Int × (List Int × Unit)) : Option (Bool × Unit) := b1 (bitsOk x.1 x.2.1)

/- messages -/
def markB (n : Nat) : Bool := n == 1 || n == 2
def rec0 : Rec := ⟨0, 0, 0, 0, 0, 0, false, false⟩
def z (n : Int) : Bool := n == 0
def zl (l : List Int) : Bool := l.length == 0
def mayKind (m : Msg) : Bool :=
  if m.kind = 2 ∨ m.kind = 3 then decide (2 ≤ m.op) && decide (m.op ≤ 8) && markB m.marks.length && z m.track && z m.n && z m.code && zl m.bytes
  else if m.kind = 4 then decide (1 ≤ m.op) && decide (m.op ≤ 8) && decide (1 ≤ m.code) && decide (m.code ≤ 999) && z m.track && z m.n && zl m.marks && zl m.bytes
  else if m.kind = 5 then (m.bytes.length == 28) && z m.op && z m.code && zl m.marks
  else if m.kind = 6 then z m.op && z m.track && z m.code && zl m.marks && zl m.bytes
  else if m.kind = 7 then z m.op && z m.track && z m.n && z m.code && zl m.marks && zl m.bytes
  else if m.kind = 8 then z m.op && z m.n && z m.code && zl m.marks && zl m.bytes
  else false
def mayMsg (m : Msg) : Bool :=
  decide (0 ≤ m.pair) && decide (m.pair ≤ 2) &&
    if m.kind = 1 then z m.op && z m.born && z m.epoch && z m.track && z m.n && z m.code && zl m.bytes && (if m.has = true then mayRec m.rec_ && (m.rec_.pair == m.pair) && markB m.marks.length else decide (m.rec_ = rec0) && zl m.marks)
    else !m.has && decide (m.rec_ = rec0) && !z m.born && !z m.epoch && decide (0 ≤ m.track) && decide (m.track ≤ 15) && mayKind m
def N_ref20_May (x : Msg × Unit) : Option (Bool × Unit) := b1 (mayMsg x.1)
def N_msg_marks (x : List Int × Unit) : Option (Bool × Unit) := b1 (markB x.1.length)
def N_msg_of (x : Msg × Unit) : Option (Plain × Unit) := some (⟨x.1.kind, x.1.op, x.1.pair, x.1.track, x.1.has, x.1.rec_, x.1.born, x.1.epoch, x.1.n, x.1.code⟩, ())
def N_msg_Same (x : Msg × (Msg × Unit)) : Option (Bool × Unit) := b1 (decide (x.1 = x.2.1))
def N_msg_Check (x : Msg × Unit) : Option (Int × Unit) := e1 (if mayMsg x.1 = true then 0 else 200)
/-- A message with what its kind uses alone, and may it be? -/
def usedOf (m : Msg) : Msg × Bool :=
  let o : Msg := ⟨m.kind, m.pair, false, rec0, 0, m.born, m.epoch, 0, 0, 0, [], []⟩
  let may := decide (0 < m.born) && decide (0 < m.epoch)
  if m.kind = 1 then (if m.has = true then (⟨m.kind, m.pair, true, m.rec_, 0, 0, 0, 0, 0, 0, m.marks, []⟩, mayRec m.rec_ && (m.rec_.pair == m.pair) && markB m.marks.length) else (⟨m.kind, m.pair, false, rec0, 0, 0, 0, 0, 0, 0, [], []⟩, true))
  else if m.kind = 2 ∨ m.kind = 3 then ({ o with op := m.op, marks := m.marks }, may && decide (2 ≤ m.op) && decide (m.op ≤ 8) && markB m.marks.length)
  else if m.kind = 4 then ({ o with op := m.op, code := m.code }, may && decide (1 ≤ m.op) && decide (m.op ≤ 8) && decide (1 ≤ m.code) && decide (m.code ≤ 999))
  else if m.kind = 5 then ({ o with track := m.track, n := m.n, bytes := m.bytes }, may && (m.bytes.length == 28))
  else if m.kind = 6 then ({ o with n := m.n }, may)
  else if m.kind = 7 then (o, may)
  else if m.kind = 8 then ({ o with track := m.track }, may)
  else (o, false)
def N_msg_used (x : Msg × Unit) : Option (Msg × (Bool × Unit)) := some ((usedOf x.1).1, ((usedOf x.1).2, ()))
def fitMsg (m : Msg) : Bool := decide (m.marks.length ≤ 1000000) && decide (m.bytes.length ≤ 1000000)
def N_ref20_Twin (x : Msg × Unit) : Option (Msg × Unit) := if fitMsg x.1 = true then some x else none
def N_ref20_Same (x : Msg × (Msg × Unit)) : Option (Bool × Unit) := if x.1 = x.2.1 then b1 true else none

/- sites -/
def thereB (c : Config) (t : Int) : Bool := decide (0 ≤ t) && decide (t < c.tracks)
def pairB (c : Config) (p : Int) : Bool := decide (0 ≤ p) && decide (p < c.pairs)
def N_ref21_there (x : Config × (Int × Unit)) : Option (Bool × Unit) := b1 (thereB x.1 x.2.1)
def N_ref21_pair (x : Config × (Int × Unit)) : Option (Bool × Unit) := b1 (pairB x.1 x.2.1)
def N_act_limits_pair (x : Config × (Int × Unit)) : Option (Bool × Unit) := b1 (pairB x.1 x.2.1)
def mayMsgC (c : Config) (m : Msg) : Bool := mayMsg m && pairB c m.pair
def N_ref21_mayMsg (x : Config × (Msg × Unit)) : Option (Bool × Unit) := b1 (mayMsgC x.1 x.2.1)
def N_act_limits_message (x : Config × (Msg × Unit)) : Option (Bool × Unit) := b1 (mayMsgC x.1 x.2.1)
def maySide (c : Config) (x : Side) : Bool :=
  bitsOk c.tracks x.marks && bitsOk c.tracks x.work && bitsOk c.tracks x.need && decide ((x.out.length : Int) ≤ c.window) && decide (x.waits.length ≤ 64) && x.out.all (fun s => thereB c s.track) && x.waits.all (fun s => thereB c s.track) &&
    (decide (x.first = -1) || thereB c x.first) && thereB c x.next && (decide (x.op = 0) || (decide (2 ≤ x.op) && decide (x.op ≤ 8)))
def N_ref21_maySide (x : Config × (Side × Unit)) : Option (Bool × Unit) := b1 (maySide x.1 x.2.1)
def N_act_limits_side (x : Config × (Side × Unit)) : Option (Bool × Unit) := b1 (maySide x.1 x.2.1)
def mayAct (c : Config) (n : Int) (a : Act) : Bool :=
  if a.kind = 1 then decide (0 ≤ a.at_) && decide (a.at_ < n) && (a.bytes.length == 32)
  else if a.kind = 3 then mayMsgC c a.msg
  else if a.kind = 5 then pairB c a.pair
  else decide (1 ≤ a.kind) && decide (a.kind ≤ 6)
def N_ref21_mayAct (x : Config × (Site × (Act × Unit))) : Option (Bool × Unit) := b1 (mayAct x.1 x.2.1.disk.sectors.length x.2.2.1)
def N_act_limits_act (x : Config × (Act × (Int × Unit))) : Option (Bool × Unit) := b1 (mayAct x.1 x.2.2.1 x.2.1)
def mayMail (c : Config) (m : Mail) : Bool := if m.kind = 0 then mayMsgC c m.msg else decide (m.kind ≤ 3)
def N_act_limits_mail (x : Config × (Mail × Unit)) : Option (Bool × Unit) := b1 (mayMail x.1 x.2.1)
def mayAsk (a : Ask) : Bool := decide (1 ≤ a.kind) && decide (a.kind ≤ 3)
def mayLists (c : Config) (s : Site) : Bool := s.plan.all (mayAct c s.disk.sectors.length) && s.mail.all (mayMail c) && s.asks.all mayAsk
def N_ref21_mayLists (x : Config × (Site × Unit)) : Option (Bool × Unit) := b1 (mayLists x.1 x.2.1)
def maySite (c : Config) (s : Site) : Bool :=
  mayVol c s.disk && decide (0 ≤ s.id) && decide (s.id ≤ 1) && mayMeta c s.met && mayEnd c s.end_ && ((s.sides.length : Int) == c.pairs) && decide (s.born ≤ 64) && s.met.table.all (fun r => pairB c r.pair) && s.sides.all (maySide c) && mayLists c s
def sm (n : Nat) (l : List Int) : Bool := decide (l.length ≤ n)
def smallSide (x : Side) : Bool := decide (x.marks.length ≤ 100) && decide (x.work.length ≤ 100) && decide (x.need.length ≤ 100) && decide (x.out.length ≤ 100) && decide (x.waits.length ≤ 100)
def smallAct (a : Act) : Bool := decide (a.bytes.length ≤ 100) && decide (a.msg.bytes.length ≤ 100) && decide (a.msg.marks.length ≤ 100) && decide (a.reply.bytes.length ≤ 100)
def smallMail (m : Mail) : Bool := decide (m.msg.bytes.length ≤ 100) && decide (m.msg.marks.length ≤ 100)
def smallWords (s : Site) : Bool := s.asks.all (fun a => decide (a.bytes.length ≤ 100)) && s.replies.all (fun a => decide (a.bytes.length ≤ 100))
def smallLens (s : Site) : Bool :=
  decide (s.met.table.length ≤ 100) && decide (s.sides.length ≤ 10) && decide (s.plan.length ≤ 200) && decide (s.mail.length ≤ 200) && decide (s.asks.length ≤ 200) && decide (s.replies.length ≤ 2000) && decide (s.syncs.length ≤ 2000) && decide (s.end_.out.items.length ≤ 100)
def smallSite (s : Site) : Bool :=
  smallDisk 300 s.disk && smallLens s && s.sides.all smallSide && s.plan.all smallAct && s.mail.all smallMail && s.end_.out.items.all (fun b => decide (b.length ≤ 100)) && smallWords s
def N_ref21_greatWords (x : Site × Unit) : Option (Bool × Unit) := b1 (!smallWords x.1)
def N_ref21_Great (x : Site × Unit) : Option (Bool × Unit) := b1 (!smallSite x.1)
def N_ref21_May (x : Config × (Site × Unit)) : Option (Bool × Unit) := if smallSite x.2.1 = true then b1 (maySite x.1 x.2.1) else none
def N_act_Check (x : Config × (Site × Unit)) : Option (Int × Unit) := if smallSite x.2.1 = true then e1 (if maySite x.1 x.2.1 = true then 0 else 8) else none
def N_ref21_bytes (x : List Int × Unit) : Option (List Int × Unit) := if x.1.length ≤ 1000000 then some x else none
def N_ref21_TwinSide (x : Side × Unit) : Option (Side × Unit) := if smallSide x.1 = true then some x else none
def N_ref21_Twin (x : Site × Unit) : Option (Site × Unit) := if smallSite x.1 = true then some x else none
def N_ref21_SameSide (x : Side × (Side × Unit)) : Option (Bool × Unit) := if x.1 = x.2.1 then b1 true else none
def N_ref21_SameReply (x : Reply × (Reply × Unit)) : Option (Bool × Unit) := if x.1 = x.2.1 then b1 true else none
def N_ref21_SameReplies (x : List Reply × (List Reply × Unit)) : Option (Bool × Unit) := if x.1 = x.2.1 then b1 true else none
def N_ref21_samePlan (x : List Act × (List Act × Unit)) : Option (Bool × Unit) := if x.1 = x.2.1 then b1 true else none
def N_ref21_sameCome (x : Site × (Site × Unit)) : Option (Bool × Unit) := if x.1 = x.2.1 then b1 true else none
def N_ref21_Same (x : Site × (Site × Unit)) : Option (Bool × Unit) := if x.1 = x.2.1 then b1 true else none
def crashOf (c : Config) (s : Site) (l : List Int) : Disk × Int := if maySite c s = true then (behind s.disk l, 0) else (⟨[], []⟩, 8)
def N_ref26_Crash (x : Config × (Site × (List Int × Unit))) : Option (Disk × (Int × Unit)) := if smallSite x.2.1 = true then some ((crashOf x.1 x.2.1 x.2.2.1).1, ((crashOf x.1 x.2.1 x.2.2.1).2, ())) else none
def N_boot_Crash (x : Config × (Site × (List Int × Unit))) : Option (Disk × (Int × Unit)) := N_ref26_Crash x

end Go.Cat
