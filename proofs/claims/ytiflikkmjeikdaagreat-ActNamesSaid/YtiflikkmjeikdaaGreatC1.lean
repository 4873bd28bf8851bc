/-
  My own text: a part of the proof.
  My own text: a part of the proof.
  My own text: a part of the proof.
  My own text: a part of the proof.
  My own text: a part of the proof.
  My own text: a part of the proof.
  My own text: a part of the proof.
-/
import GoSem.Core.Value
import GoSem.Dispatch
import Derived.Laws.OwnMore
import Derived.Laws.MakeOwn
import Derived.Calls
import Derived.Orders
import Derived.LoopN
import Derived.Below
set_option linter.unusedVariables false
set_option linter.unusedSimpArgs false
namespace Go.Cat
structure Sector where
  bytes : List Int
  bad : Bool
  deriving DecidableEq, Inhabited
structure Pend where
  at_ : Int
  bytes : List Int
  deriving DecidableEq, Inhabited
structure Disk where
  sectors : List Sector
  cache : List Pend
  deriving DecidableEq, Inhabited
structure Super where
  boot : Int
  area : Int
  gen : Int
  deriving DecidableEq, Inhabited
structure Rec where
  pair : Int
  born : Int
  epoch : Int
  lead : Int
  phase : Int
  from_ : Int
  quick : Bool
  alone : Bool
  deriving DecidableEq, Inhabited
structure Meta where
  super : Super
  count : Int
  turn : Int
  table : List Rec
  deriving DecidableEq, Inhabited
structure Msg where
  kind : Int
  pair : Int
  has : Bool
  rec_ : Rec
  op : Int
  born : Int
  epoch : Int
  track : Int
  n : Int
  code : Int
  marks : List Int
  bytes : List Int
  deriving DecidableEq, Inhabited
structure Reply where
  ask : Int
  code : Int
  state : Int
  bytes : List Int
  deriving DecidableEq, Inhabited
structure Act where
  kind : Int
  at_ : Int
  bytes : List Int
  me : Int
  you : Int
  msg : Msg
  reply : Reply
  pair : Int
  deriving DecidableEq, Inhabited
structure Ask where
  id : Int
  kind : Int
  pair : Int
  track : Int
  op : Int
  bytes : List Int
  deriving DecidableEq, Inhabited
structure Mail where
  kind : Int
  me : Int
  you : Int
  msg : Msg
  deriving DecidableEq, Inhabited
structure Sent where
  track : Int
  n : Int
  dirty : Bool
  deriving DecidableEq, Inhabited
structure Wait where
  ask : Int
  track : Int
  n : Int
  read : Bool
  deriving DecidableEq, Inhabited
structure Side where
  marks : List Int
  work : List Int
  out : List Sent
  n : Int
  waits : List Wait
  need : List Int
  first : Int
  next : Int
  op : Int
  ask : Int
  knows : Bool
  over : Bool
  clean : Bool
  again : Bool
  deriving DecidableEq, Inhabited
structure Queue where
  items : List (List Int)
  head : Int
  many : Int
  deriving DecidableEq, Inhabited
structure End where
  me : Int
  you : Int
  up : Bool
  dead : Bool
  sent : Int
  done : Int
  out : Queue
  got : Int
  quiet : Int
  deriving DecidableEq, Inhabited
structure Site where
  id : Int
  disk : Disk
  met : Meta
  sides : List Side
  end_ : End
  plan : List Act
  mail : List Mail
  asks : List Ask
  replies : List Reply
  syncs : List Int
  born : Int
  ready : Bool
  deriving DecidableEq, Inhabited
structure Config where
  pairs : Int
  tracks : Int
  area : Int
  most : Int
  window : Int
  quiet : Int
  deriving DecidableEq, Inhabited
structure Bound where
  a : Int
  b : Int
  c : Int
  deriving DecidableEq, Inhabited
structure Part where
  kind : Int
  owners : Int
  many : Int
  own : Int
  deriving DecidableEq, Inhabited
structure Plain where
  kind : Int
  op : Int
  pair : Int
  track : Int
  has : Bool
  rec_ : Rec
  born : Int
  epoch : Int
  num : Int
  code : Int
  deriving DecidableEq, Inhabited
structure Head where
  me : Int
  you : Int
  sent : Int
  done : Int
  got : Int
  up : Bool
  dead : Bool
  quiet : Int
  deriving DecidableEq, Inhabited
structure Round where
  all : List (List Int)
  from_ : Int
  many : Int
  deriving DecidableEq, Inhabited
structure Step where
  note : List Int
  many : Int
  fates : List Int
  again : Int
  deriving DecidableEq, Inhabited
inductive SN where
  | Sector | Pend | Disk | Super | Rec | Meta | Msg | Reply | Act | Ask | Mail | Sent | Wait | Side | Queue | End | Site | Config | Bound | Part | Plain | Head | Round | Step
  deriving DecidableEq, Repr
inductive EN where
  | int (k : IntKind) | bool | str | sl (e : EN) | st (s : SN)
  deriving DecidableEq, Repr
abbrev STy : SN → Type
  | .Sector => Sector
  | .Pend => Pend
  | .Disk => Disk
  | .Super => Super
  | .Rec => Rec
  | .Meta => Meta
  | .Msg => Msg
  | .Reply => Reply
  | .Act => Act
  | .Ask => Ask
  | .Mail => Mail
  | .Sent => Sent
  | .Wait => Wait
  | .Side => Side
  | .Queue => Queue
  | .End => End
  | .Site => Site
  | .Config => Config
  | .Bound => Bound
  | .Part => Part
  | .Plain => Plain
  | .Head => Head
  | .Round => Round
  | .Step => Step
abbrev T : EN → Type
  | .int _ => Int
  | .bool => Bool
  | .str => List Int
  | .sl e => List (T e)
  | .st s => STy s
inductive Leaf where
  | int (k : IntKind) (n : Int) | bool (b : Bool) | str (s : List Int) | sl (e : EN) (xs : List (T e))
inductive LK where
  | int (k : IntKind) | bool | str | sl (e : EN)
  deriving DecidableEq, Repr
def stCells : (s : SN) → STy s → List Leaf
  | .Sector, x => [.sl (.int .u8) x.bytes, .bool x.bad]
  | .Pend, x => [.int .i64 x.at_, .sl (.int .u8) x.bytes]
  | .Disk, x => [.sl (.st .Sector) x.sectors, .sl (.st .Pend) x.cache]
  | .Super, x => [.int .u32 x.boot, .int .i64 x.area, .int .u64 x.gen]
  | .Rec, x => [.int .i64 x.pair, .int .u32 x.born, .int .u32 x.epoch, .int .i64 x.lead, .int .u8 x.phase, .int .i64 x.from_, .bool x.quick, .bool x.alone]
  | .Meta, x => [.int .u32 x.super.boot, .int .i64 x.super.area, .int .u64 x.super.gen, .int .i64 x.count, .int .i64 x.turn, .sl (.st .Rec) x.table]
  | .Msg, x => [.int .u8 x.kind, .int .i64 x.pair, .bool x.has, .int .i64 x.rec_.pair, .int .u32 x.rec_.born, .int .u32 x.rec_.epoch, .int .i64 x.rec_.lead, .int .u8 x.rec_.phase, .int .i64 x.rec_.from_, .bool x.rec_.quick, .bool x.rec_.alone, .int .u8 x.op, .int .u32 x.born, .int .u32 x.epoch, .int .i64 x.track, .int .u32 x.n, .int .i64 x.code, .sl (.int .u8) x.marks, .sl (.int .u8) x.bytes]
  | .Reply, x => [.int .i64 x.ask, .int .i64 x.code, .int .u8 x.state, .sl (.int .u8) x.bytes]
  | .Act, x => [.int .u8 x.kind, .int .i64 x.at_, .sl (.int .u8) x.bytes, .int .u32 x.me, .int .u32 x.you, .int .u8 x.msg.kind, .int .i64 x.msg.pair, .bool x.msg.has, .int .i64 x.msg.rec_.pair, .int .u32 x.msg.rec_.born, .int .u32 x.msg.rec_.epoch, .int .i64 x.msg.rec_.lead, .int .u8 x.msg.rec_.phase, .int .i64 x.msg.rec_.from_, .bool x.msg.rec_.quick, .bool x.msg.rec_.alone, .int .u8 x.msg.op, .int .u32 x.msg.born, .int .u32 x.msg.epoch, .int .i64 x.msg.track, .int .u32 x.msg.n, .int .i64 x.msg.code, .sl (.int .u8) x.msg.marks, .sl (.int .u8) x.msg.bytes, .int .i64 x.reply.ask, .int .i64 x.reply.code, .int .u8 x.reply.state, .sl (.int .u8) x.reply.bytes, .int .i64 x.pair]
  | .Ask, x => [.int .i64 x.id, .int .u8 x.kind, .int .i64 x.pair, .int .i64 x.track, .int .u8 x.op, .sl (.int .u8) x.bytes]
  | .Mail, x => [.int .u8 x.kind, .int .u32 x.me, .int .u32 x.you, .int .u8 x.msg.kind, .int .i64 x.msg.pair, .bool x.msg.has, .int .i64 x.msg.rec_.pair, .int .u32 x.msg.rec_.born, .int .u32 x.msg.rec_.epoch, .int .i64 x.msg.rec_.lead, .int .u8 x.msg.rec_.phase, .int .i64 x.msg.rec_.from_, .bool x.msg.rec_.quick, .bool x.msg.rec_.alone, .int .u8 x.msg.op, .int .u32 x.msg.born, .int .u32 x.msg.epoch, .int .i64 x.msg.track, .int .u32 x.msg.n, .int .i64 x.msg.code, .sl (.int .u8) x.msg.marks, .sl (.int .u8) x.msg.bytes]
  | .Sent, x => [.int .i64 x.track, .int .u32 x.n, .bool x.dirty]
  | .Wait, x => [.int .i64 x.ask, .int .i64 x.track, .int .u32 x.n, .bool x.read]
  | .Side, x => [.sl (.int .u8) x.marks, .sl (.int .u8) x.work, .sl (.st .Sent) x.out, .int .u32 x.n, .sl (.st .Wait) x.waits, .sl (.int .u8) x.need, .int .i64 x.first, .int .i64 x.next, .int .u8 x.op, .int .i64 x.ask, .bool x.knows, .bool x.over, .bool x.clean, .bool x.again]
  | .Queue, x => [.sl (.sl (.int .u8)) x.items, .int .i64 x.head, .int .i64 x.many]
  | .End, x => [.int .u32 x.me, .int .u32 x.you, .bool x.up, .bool x.dead, .int .u32 x.sent, .int .u32 x.done, .sl (.sl (.int .u8)) x.out.items, .int .i64 x.out.head, .int .i64 x.out.many, .int .u32 x.got, .int .i64 x.quiet]
  | .Site, x => [.int .i64 x.id, .sl (.st .Sector) x.disk.sectors, .sl (.st .Pend) x.disk.cache, .int .u32 x.met.super.boot, .int .i64 x.met.super.area, .int .u64 x.met.super.gen, .int .i64 x.met.count, .int .i64 x.met.turn, .sl (.st .Rec) x.met.table, .sl (.st .Side) x.sides, .int .u32 x.end_.me, .int .u32 x.end_.you, .bool x.end_.up, .bool x.end_.dead, .int .u32 x.end_.sent, .int .u32 x.end_.done, .sl (.sl (.int .u8)) x.end_.out.items, .int .i64 x.end_.out.head, .int .i64 x.end_.out.many, .int .u32 x.end_.got, .int .i64 x.end_.quiet, .sl (.st .Act) x.plan, .sl (.st .Mail) x.mail, .sl (.st .Ask) x.asks, .sl (.st .Reply) x.replies, .sl (.int .i64) x.syncs, .int .u32 x.born, .bool x.ready]
  | .Config, x => [.int .i64 x.pairs, .int .i64 x.tracks, .int .i64 x.area, .int .i64 x.most, .int .i64 x.window, .int .i64 x.quiet]
  | .Bound, x => [.int .i64 x.a, .int .i64 x.b, .int .i64 x.c]
  | .Part, x => [.int .u8 x.kind, .int .i64 x.owners, .int .i64 x.many, .int .i64 x.own]
  | .Plain, x => [.int .u8 x.kind, .int .u8 x.op, .int .i64 x.pair, .int .i64 x.track, .bool x.has, .int .i64 x.rec_.pair, .int .u32 x.rec_.born, .int .u32 x.rec_.epoch, .int .i64 x.rec_.lead, .int .u8 x.rec_.phase, .int .i64 x.rec_.from_, .bool x.rec_.quick, .bool x.rec_.alone, .int .u32 x.born, .int .u32 x.epoch, .int .u32 x.num, .int .i64 x.code]
  | .Head, x => [.int .u32 x.me, .int .u32 x.you, .int .u32 x.sent, .int .u32 x.done, .int .u32 x.got, .bool x.up, .bool x.dead, .int .i64 x.quiet]
  | .Round, x => [.sl (.sl (.int .u8)) x.all, .int .i64 x.from_, .int .i64 x.many]
  | .Step, x => [.sl (.int .u8) x.note, .int .i64 x.many, .sl (.int .u8) x.fates, .int .i64 x.again]
def stKinds : SN → List LK
  | .Sector => [.sl (.int .u8), .bool]
  | .Pend => [.int .i64, .sl (.int .u8)]
  | .Disk => [.sl (.st .Sector), .sl (.st .Pend)]
  | .Super => [.int .u32, .int .i64, .int .u64]
  | .Rec => [.int .i64, .int .u32, .int .u32, .int .i64, .int .u8, .int .i64, .bool, .bool]
  | .Meta => [.int .u32, .int .i64, .int .u64, .int .i64, .int .i64, .sl (.st .Rec)]
  | .Msg => [.int .u8, .int .i64, .bool, .int .i64, .int .u32, .int .u32, .int .i64, .int .u8, .int .i64, .bool, .bool, .int .u8, .int .u32, .int .u32, .int .i64, .int .u32, .int .i64, .sl (.int .u8), .sl (.int .u8)]
  | .Reply => [.int .i64, .int .i64, .int .u8, .sl (.int .u8)]
  | .Act => [.int .u8, .int .i64, .sl (.int .u8), .int .u32, .int .u32, .int .u8, .int .i64, .bool, .int .i64, .int .u32, .int .u32, .int .i64, .int .u8, .int .i64, .bool, .bool, .int .u8, .int .u32, .int .u32, .int .i64, .int .u32, .int .i64, .sl (.int .u8), .sl (.int .u8), .int .i64, .int .i64, .int .u8, .sl (.int .u8), .int .i64]
  | .Ask => [.int .i64, .int .u8, .int .i64, .int .i64, .int .u8, .sl (.int .u8)]
  | .Mail => [.int .u8, .int .u32, .int .u32, .int .u8, .int .i64, .bool, .int .i64, .int .u32, .int .u32, .int .i64, .int .u8, .int .i64, .bool, .bool, .int .u8, .int .u32, .int .u32, .int .i64, .int .u32, .int .i64, .sl (.int .u8), .sl (.int .u8)]
  | .Sent => [.int .i64, .int .u32, .bool]
  | .Wait => [.int .i64, .int .i64, .int .u32, .bool]
  | .Side => [.sl (.int .u8), .sl (.int .u8), .sl (.st .Sent), .int .u32, .sl (.st .Wait), .sl (.int .u8), .int .i64, .int .i64, .int .u8, .int .i64, .bool, .bool, .bool, .bool]
  | .Queue => [.sl (.sl (.int .u8)), .int .i64, .int .i64]
  | .End => [.int .u32, .int .u32, .bool, .bool, .int .u32, .int .u32, .sl (.sl (.int .u8)), .int .i64, .int .i64, .int .u32, .int .i64]
  | .Site => [.int .i64, .sl (.st .Sector), .sl (.st .Pend), .int .u32, .int .i64, .int .u64, .int .i64, .int .i64, .sl (.st .Rec), .sl (.st .Side), .int .u32, .int .u32, .bool, .bool, .int .u32, .int .u32, .sl (.sl (.int .u8)), .int .i64, .int .i64, .int .u32, .int .i64, .sl (.st .Act), .sl (.st .Mail), .sl (.st .Ask), .sl (.st .Reply), .sl (.int .i64), .int .u32, .bool]
  | .Config => [.int .i64, .int .i64, .int .i64, .int .i64, .int .i64, .int .i64]
  | .Bound => [.int .i64, .int .i64, .int .i64]
  | .Part => [.int .u8, .int .i64, .int .i64, .int .i64]
  | .Plain => [.int .u8, .int .u8, .int .i64, .int .i64, .bool, .int .i64, .int .u32, .int .u32, .int .i64, .int .u8, .int .i64, .bool, .bool, .int .u32, .int .u32, .int .u32, .int .i64]
  | .Head => [.int .u32, .int .u32, .int .u32, .int .u32, .int .u32, .bool, .bool, .int .i64]
  | .Round => [.sl (.sl (.int .u8)), .int .i64, .int .i64]
  | .Step => [.sl (.int .u8), .int .i64, .sl (.int .u8), .int .i64]
def stOf : (s : SN) → List Leaf → Option (STy s)
  | .Sector, l => match l with
    | [.sl (.int .u8) a0, .bool a1] => some ⟨a0, a1⟩
    | _ => none
  | .Pend, l => match l with
    | [.int .i64 a0, .sl (.int .u8) a1] => some ⟨a0, a1⟩
    | _ => none
  | .Disk, l => match l with
    | [.sl (.st .Sector) a0, .sl (.st .Pend) a1] => some ⟨a0, a1⟩
    | _ => none
  | .Super, l => match l with
    | [.int .u32 a0, .int .i64 a1, .int .u64 a2] => some ⟨a0, a1, a2⟩
    | _ => none
  | .Rec, l => match l with
    | [.int .i64 a0, .int .u32 a1, .int .u32 a2, .int .i64 a3, .int .u8 a4, .int .i64 a5, .bool a6, .bool a7] => some ⟨a0, a1, a2, a3, a4, a5, a6, a7⟩
    | _ => none
  | .Meta, l => match l with
    | [.int .u32 a0, .int .i64 a1, .int .u64 a2, .int .i64 a3, .int .i64 a4, .sl (.st .Rec) a5] => some ⟨⟨a0, a1, a2⟩, a3, a4, a5⟩
    | _ => none
  | .Msg, l => match l with
    | [.int .u8 a0, .int .i64 a1, .bool a2, .int .i64 a3, .int .u32 a4, .int .u32 a5, .int .i64 a6, .int .u8 a7, .int .i64 a8, .bool a9, .bool a10, .int .u8 a11, .int .u32 a12, .int .u32 a13, .int .i64 a14, .int .u32 a15, .int .i64 a16, .sl (.int .u8) a17, .sl (.int .u8) a18] => some ⟨a0, a1, a2, ⟨a3, a4, a5, a6, a7, a8, a9, a10⟩, a11, a12, a13, a14, a15, a16, a17, a18⟩
    | _ => none
  | .Reply, l => match l with
    | [.int .i64 a0, .int .i64 a1, .int .u8 a2, .sl (.int .u8) a3] => some ⟨a0, a1, a2, a3⟩
    | _ => none
  | .Act, l => match l with
    | [.int .u8 a0, .int .i64 a1, .sl (.int .u8) a2, .int .u32 a3, .int .u32 a4, .int .u8 a5, .int .i64 a6, .bool a7, .int .i64 a8, .int .u32 a9, .int .u32 a10, .int .i64 a11, .int .u8 a12, .int .i64 a13, .bool a14, .bool a15, .int .u8 a16, .int .u32 a17, .int .u32 a18, .int .i64 a19, .int .u32 a20, .int .i64 a21, .sl (.int .u8) a22, .sl (.int .u8) a23, .int .i64 a24, .int .i64 a25, .int .u8 a26, .sl (.int .u8) a27, .int .i64 a28] => some ⟨a0, a1, a2, a3, a4, ⟨a5, a6, a7, ⟨a8, a9, a10, a11, a12, a13, a14, a15⟩, a16, a17, a18, a19, a20, a21, a22, a23⟩, ⟨a24, a25, a26, a27⟩, a28⟩
    | _ => none
  | .Ask, l => match l with
    | [.int .i64 a0, .int .u8 a1, .int .i64 a2, .int .i64 a3, .int .u8 a4, .sl (.int .u8) a5] => some ⟨a0, a1, a2, a3, a4, a5⟩
    | _ => none
  | .Mail, l => match l with
    | [.int .u8 a0, .int .u32 a1, .int .u32 a2, .int .u8 a3, .int .i64 a4, .bool a5, .int .i64 a6, .int .u32 a7, .int .u32 a8, .int .i64 a9, .int .u8 a10, .int .i64 a11, .bool a12, .bool a13, .int .u8 a14, .int .u32 a15, .int .u32 a16, .int .i64 a17, .int .u32 a18, .int .i64 a19, .sl (.int .u8) a20, .sl (.int .u8) a21] => some ⟨a0, a1, a2, ⟨a3, a4, a5, ⟨a6, a7, a8, a9, a10, a11, a12, a13⟩, a14, a15, a16, a17, a18, a19, a20, a21⟩⟩
    | _ => none
  | .Sent, l => match l with
    | [.int .i64 a0, .int .u32 a1, .bool a2] => some ⟨a0, a1, a2⟩
    | _ => none
  | .Wait, l => match l with
    | [.int .i64 a0, .int .i64 a1, .int .u32 a2, .bool a3] => some ⟨a0, a1, a2, a3⟩
    | _ => none
  | .Side, l => match l with
    | [.sl (.int .u8) a0, .sl (.int .u8) a1, .sl (.st .Sent) a2, .int .u32 a3, .sl (.st .Wait) a4, .sl (.int .u8) a5, .int .i64 a6, .int .i64 a7, .int .u8 a8, .int .i64 a9, .bool a10, .bool a11, .bool a12, .bool a13] => some ⟨a0, a1, a2, a3, a4, a5, a6, a7, a8, a9, a10, a11, a12, a13⟩
    | _ => none
  | .Queue, l => match l with
    | [.sl (.sl (.int .u8)) a0, .int .i64 a1, .int .i64 a2] => some ⟨a0, a1, a2⟩
    | _ => none
  | .End, l => match l with
    | [.int .u32 a0, .int .u32 a1, .bool a2, .bool a3, .int .u32 a4, .int .u32 a5, .sl (.sl (.int .u8)) a6, .int .i64 a7, .int .i64 a8, .int .u32 a9, .int .i64 a10] => some ⟨a0, a1, a2, a3, a4, a5, ⟨a6, a7, a8⟩, a9, a10⟩
    | _ => none
  | .Site, l => match l with
    | [.int .i64 a0, .sl (.st .Sector) a1, .sl (.st .Pend) a2, .int .u32 a3, .int .i64 a4, .int .u64 a5, .int .i64 a6, .int .i64 a7, .sl (.st .Rec) a8, .sl (.st .Side) a9, .int .u32 a10, .int .u32 a11, .bool a12, .bool a13, .int .u32 a14, .int .u32 a15, .sl (.sl (.int .u8)) a16, .int .i64 a17, .int .i64 a18, .int .u32 a19, .int .i64 a20, .sl (.st .Act) a21, .sl (.st .Mail) a22, .sl (.st .Ask) a23, .sl (.st .Reply) a24, .sl (.int .i64) a25, .int .u32 a26, .bool a27] => some ⟨a0, ⟨a1, a2⟩, ⟨⟨a3, a4, a5⟩, a6, a7, a8⟩, a9, ⟨a10, a11, a12, a13, a14, a15, ⟨a16, a17, a18⟩, a19, a20⟩, a21, a22, a23, a24, a25, a26, a27⟩
    | _ => none
  | .Config, l => match l with
    | [.int .i64 a0, .int .i64 a1, .int .i64 a2, .int .i64 a3, .int .i64 a4, .int .i64 a5] => some ⟨a0, a1, a2, a3, a4, a5⟩
    | _ => none
  | .Bound, l => match l with
    | [.int .i64 a0, .int .i64 a1, .int .i64 a2] => some ⟨a0, a1, a2⟩
    | _ => none
  | .Part, l => match l with
    | [.int .u8 a0, .int .i64 a1, .int .i64 a2, .int .i64 a3] => some ⟨a0, a1, a2, a3⟩
    | _ => none
  | .Plain, l => match l with
    | [.int .u8 a0, .int .u8 a1, .int .i64 a2, .int .i64 a3, .bool a4, .int .i64 a5, .int .u32 a6, .int .u32 a7, .int .i64 a8, .int .u8 a9, .int .i64 a10, .bool a11, .bool a12, .int .u32 a13, .int .u32 a14, .int .u32 a15, .int .i64 a16] => some ⟨a0, a1, a2, a3, a4, ⟨a5, a6, a7, a8, a9, a10, a11, a12⟩, a13, a14, a15, a16⟩
    | _ => none
  | .Head, l => match l with
    | [.int .u32 a0, .int .u32 a1, .int .u32 a2, .int .u32 a3, .int .u32 a4, .bool a5, .bool a6, .int .i64 a7] => some ⟨a0, a1, a2, a3, a4, a5, a6, a7⟩
    | _ => none
  | .Round, l => match l with
    | [.sl (.sl (.int .u8)) a0, .int .i64 a1, .int .i64 a2] => some ⟨a0, a1, a2⟩
    | _ => none
  | .Step, l => match l with
    | [.sl (.int .u8) a0, .int .i64 a1, .sl (.int .u8) a2, .int .i64 a3] => some ⟨a0, a1, a2, a3⟩
    | _ => none
def stZero : (s : SN) → STy s
  | .Sector => ⟨[], false⟩
  | .Pend => ⟨0, []⟩
  | .Disk => ⟨[], []⟩
  | .Super => ⟨0, 0, 0⟩
  | .Rec => ⟨0, 0, 0, 0, 0, 0, false, false⟩
  | .Meta => ⟨⟨0, 0, 0⟩, 0, 0, []⟩
  | .Msg => ⟨0, 0, false, ⟨0, 0, 0, 0, 0, 0, false, false⟩, 0, 0, 0, 0, 0, 0, [], []⟩
  | .Reply => ⟨0, 0, 0, []⟩
  | .Act => ⟨0, 0, [], 0, 0, ⟨0, 0, false, ⟨0, 0, 0, 0, 0, 0, false, false⟩, 0, 0, 0, 0, 0, 0, [], []⟩, ⟨0, 0, 0, []⟩, 0⟩
  | .Ask => ⟨0, 0, 0, 0, 0, []⟩
  | .Mail => ⟨0, 0, 0, ⟨0, 0, false, ⟨0, 0, 0, 0, 0, 0, false, false⟩, 0, 0, 0, 0, 0, 0, [], []⟩⟩
  | .Sent => ⟨0, 0, false⟩
  | .Wait => ⟨0, 0, 0, false⟩
  | .Side => ⟨[], [], [], 0, [], [], 0, 0, 0, 0, false, false, false, false⟩
  | .Queue => ⟨[], 0, 0⟩
  | .End => ⟨0, 0, false, false, 0, 0, ⟨[], 0, 0⟩, 0, 0⟩
  | .Site => ⟨0, ⟨[], []⟩, ⟨⟨0, 0, 0⟩, 0, 0, []⟩, [], ⟨0, 0, false, false, 0, 0, ⟨[], 0, 0⟩, 0, 0⟩, [], [], [], [], [], 0, false⟩
  | .Config => ⟨0, 0, 0, 0, 0, 0⟩
  | .Bound => ⟨0, 0, 0⟩
  | .Part => ⟨0, 0, 0, 0⟩
  | .Plain => ⟨0, 0, 0, 0, false, ⟨0, 0, 0, 0, 0, 0, false, false⟩, 0, 0, 0, 0⟩
  | .Head => ⟨0, 0, 0, 0, 0, false, false, 0⟩
  | .Round => ⟨[], 0, 0⟩
  | .Step => ⟨[], 0, [], 0⟩
end Go.Cat

namespace Go.Cat
def cells : (e : EN) → T e → List Leaf
  | .int k, n => [.int k n]
  | .bool, b => [.bool b]
  | .str, s => [.str s]
  | .sl e, xs => [.sl e xs]
  | .st s, x => stCells s x
def kinds : EN → List LK
  | .int k => [.int k]
  | .bool => [.bool]
  | .str => [.str]
  | .sl e => [.sl e]
  | .st s => stKinds s
def castT {e e' : EN} (h : e' = e) (xs : List (T e')) : List (T e) := h ▸ xs
def ofCells : (e : EN) → List Leaf → Option (T e)
  | .int k, l => match l with | [.int k' n] => if k' = k then some n else none | _ => none
  | .bool, l => match l with | [.bool b] => some b | _ => none
  | .str, l => match l with | [.str s] => some s | _ => none
  | .sl e, l => match l with | [.sl e' xs] => if h : e' = e then some (castT h xs) else none | _ => none
  | .st s, l => stOf s l
def zeroT : (e : EN) → T e
  | .int _ => (0 : Int)
  | .bool => false
  | .str => []
  | .sl _ => []
  | .st s => stZero s
def rd {e : EN} (xs : List (T e)) (i : Nat) : T e := (xs[i]?).getD (zeroT e)
def sz (e : EN) : Nat := (kinds e).length
inductive SV where
  | leaf (l : Leaf)
  | lit (v : Value)
  | own (id : Nat)
  | win (id lo len : Nat)
  | rptr (ls : List Leaf)
  | optr (id idx off : Nat)
  | bptr (id off : Nat)
  | fn (f : Nat) (first captured : List SV)
  | iface (t : TypeId) (v : SV)
  | agg (cs : List SV)
  | tup (vs : List SV)
  | nn (e : EN) (xs : List (T e))
  | any
inductive SO where
  | row (et : Nat) (e : EN) (xs : List (T e))
  | blk (cs : List SV)
abbrev Heap := Nat → Option SO
structure Mem where
  objs : Heap
  next : Nat
  wl : List Nat
structure St where
  tmps : List SV
  m : Mem
def putH (h : Heap) (id : Nat) (o : Option SO) : Heap := fun i => match Nat.beq i id with | true => o | false => h i
def putAll (h : Heap) : List (Nat × Option SO) → Heap
  | [] => h
  | (i, o) :: r => putAll (putH h i o) r
inductive TyD where
  | sc | bool | str | st (fields : List (Nat × Nat)) | arr (n elem : Nat) | sl (elem : Nat) | int (k : IntKind) | other
  deriving Inhabited
structure TyI where
  d : TyD
  size : Nat
  zero : List SV
  en : Option EN
  eq : Bool := false
  deriving Inhabited
def TT : List EN → Type
  | [] => Unit
  | e :: es => T e × TT es
structure VSpec where
  params : List EN
  results : List EN
  own : Option (List (Option Nat))
  fn : TT params → Option (TT results)
inductive Tr : Type → Type 1 where
  | ret {R : Type} (r : R) : Tr R
  | fail {R : Type} : Tr R
  | ite {R : Type} (b : Bool) (t e : Tr R) : Tr R
  | guard {R : Type} (b : Bool) (t : Tr R) : Tr R
  | bind {R A : Type} (m : Option A) (k : A → Tr R) : Tr R
  | loop {R L : Type} (step : L → Tr (L ⊕ R)) (l : L) : Tr R
  | map {R A : Type} (f : A → R) (t : Tr A) : Tr R
inductive CK where
  | dat (k : LK) | own (et : Nat) (e : EN)
inductive SigV where
  | dat (e : EN) | own (et : Nat) (e : EN) | var (e : EN) | cls (ks : List CK) | same | wrow (et : Nat) (e : EN)
inductive Hint where
  | head (slots : List (Nat × SigV))
  | unroll (n : Nat)
structure Env where
  ty : List (Nat × TyI)
  specs : List (Nat × VSpec)
  inl : List (Nat × Func)
  hints : List ((Nat × Nat) × Hint)
def look {α : Type} : List (Nat × α) → Nat → Option α
  | [], _ => none
  | (i, a) :: r, n => match Nat.beq i n with | true => some a | false => look r n
inductive OT (A : Type) : Type 1 where
  | fail
  | out (a : A)
  | guard (b : Bool) (t : OT A)
  | ite (b : Bool) (t e : OT A)
  | get (id : Nat) (f : Option SO → OT A)
  | bind {B : Type} (m : Option B) (f : B → OT A)
def OT.k {A R : Type} (H : Heap) : OT A → List Nat → (A → List Nat → Tr R) → Tr R
  | .fail, _, _ => .fail
  | .out a, rs, k => k a rs
  | .guard b t, rs, k => .guard b (t.k H rs k)
  | .ite b t e, rs, k => .ite b (t.k H rs k) (e.k H rs k)
  | .get id f, rs, k => (f (H id)).k H (id :: rs) k
  | .bind m f, rs, k => .bind m fun a => (f a).k H rs k
def OT.run {A : Type} (H : Heap) : OT A → List Nat → Option (A × List Nat)
  | .fail, _ => none
  | .out a, rs => some (a, rs)
  | .guard b t, rs => if b = true then t.run H rs else none
  | .ite b t e, rs => if b = true then t.run H rs else e.run H rs
  | .get id f, rs => (f (H id)).run H (id :: rs)
  | .bind m f, rs => m.bind fun a => (f a).run H rs
abbrev Ans := SV × List (Nat × Option SO)
def ret (v : SV) : OT Ans := .out (v, [])
def onSome {α A : Type} (o : Option α) (f : α → OT A) : OT A := match o with | some a => f a | none => .fail
def rngB (k : IntKind) (n : Int) : Bool := decide (k.min ≤ n) && decide (n ≤ k.max)
def litOk : Value → Bool
  | .int k n => rngB k n
  | .string s => decide (s.size ≤ 9223372036854775807)
  | .agg _ | .tuple _ | .slice (some _) _ _ | .slice none (_ + 1) _ | .slice none 0 (_ + 1) | .func .. | .iface .. => false
  | _ => true
def ofConst1 (v : Value) : SV := match litOk v with | true => .lit v | false => .any
def ofConst : Value → SV
  | .agg cs => .agg (cs.toList.map ofConst1)
  | v => ofConst1 v
def SV.cells : SV → List SV
  | .agg cs => cs
  | v => [v]
def anySV : SV → Bool | .any => true | _ => false
def cellSV : SV → Bool
  | .any | .agg _ | .tup _ | .lit (.tuple _) | .lit (.agg _) => false
  | _ => true
def asI : SV → Option (IntKind × Int × Bool)
  | .lit (.int k n) => some (k, n, true)
  | .leaf (.int k n) => some (k, n, false)
  | _ => none
def mkI (k : IntKind) (n : Int) (lit : Bool) : SV := match lit with | true => .lit (.int k n) | false => .leaf (.int k n)
def mkB (b : Bool) (lit : Bool) : SV := match lit with | true => .lit (.bool b) | false => .leaf (.bool b)
def asB : SV → Option (Bool × Bool)
  | .lit (.bool b) => some (b, true)
  | .leaf (.bool b) => some (b, false)
  | _ => none
def strOf (b : ByteArray) : List Int := b.data.toList.map fun c => (c.toNat : Int)
def asS : SV → Option (List Int)
  | .lit (.string b) => some (strOf b)
  | .leaf (.str s) => some s
  | _ => none
def toLeaf {A : Type} (k : LK) (v : SV) (f : Leaf → List Nat → OT A) : OT A :=
  match k with
  | .int k => match asI v with | some (k', n, _) => if k' = k then f (.int k n) [] else .fail | none => .fail
  | .bool => match asB v with | some (b, _) => f (.bool b) [] | none => .fail
  | .str => match asS v with | some s => f (.str s) [] | none => .fail
  | .sl e => match v with
    | .leaf (.sl e' xs) => if e' = e then f (.sl e' xs) [] else .fail
    | .lit (.slice none 0 0) => f (.sl e []) []
    | .own id => .get id fun
      | some (.row _ e' xs) => if e' = e then f (.sl e' xs) [id] else .fail
      | _ => .fail
    | .win id lo len => .get id fun
      | some (.row _ e' xs) => if e' = e then f (.sl e' ((xs.drop lo).take len)) [id] else .fail
      | _ => .fail
    | _ => .fail
def toLeaves {A : Type} : List LK → List SV → (List Leaf → List Nat → OT A) → OT A
  | [], [], f => f [] []
  | k :: ks, v :: vs, f => toLeaf k v fun l i => toLeaves ks vs fun ls is => f (l :: ls) (i ++ is)
  | _, _, _ => .fail
def isAggE : EN → Bool | .st _ => true | _ => false
def aggSV : SV → Bool | .agg _ => true | _ => false
def toT {A : Type} (e : EN) (v : SV) (f : T e → List Nat → OT A) : OT A :=
  match aggSV v == isAggE e with
  | true => toLeaves (kinds e) v.cells fun ls is => onSome (ofCells e ls) fun x => f x is
  | false => .fail
def toTT {A : Type} : (es : List EN) → List SV → (TT es → List Nat → OT A) → OT A
  | [], [], f => f () []
  | e :: es, v :: vs, f => toT e v fun x i => toTT es vs fun xs is => f (x, xs) (i ++ is)
  | _, _, _ => .fail
def toElems {A : Type} (e : EN) : List SV → (List (T e) → List Nat → OT A) → OT A
  | [], f => f [] []
  | v :: vs, f => toT e v fun x i => toElems e vs fun xs is => f (x :: xs) (i ++ is)
def freezeAll (is : List Nat) : List (Nat × Option SO) := is.map fun i => (i, none)
def nthT : (es : List EN) → TT es → List (Σ e, T e)
  | [], _ => []
  | e :: es, (x, xs) => ⟨e, x⟩ :: nthT es xs
def mkVal (e : EN) (cs : List SV) : SV :=
  match isAggE e, cs with
  | true, cs => .agg cs
  | false, [c] => c
  | false, cs => .agg cs
def datSV (e : EN) (x : T e) : SV := mkVal e ((cells e x).map .leaf)
def kindOf : Leaf → LK
  | .int k _ => .int k
  | .bool _ => .bool
  | .str _ => .str
  | .sl e _ => .sl e
def ownNext : LK → List (Option Nat) → Option Nat
  | .sl _, o :: _ => o
  | _, _ => none
def ownRest : LK → List (Option Nat) → List (Option Nat)
  | .sl _, ets => ets.tail
  | _, ets => ets
def ownCells : List Leaf → List (Option Nat) → Nat → List SV × List (Nat × Option SO)
  | [], _, _ => ([], [])
  | l :: ls, ets, n => match ownNext (kindOf l) ets, l with
    | some et, .sl e xs => let r := ownCells ls (ownRest (kindOf l) ets) (n + 1); (.own n :: r.1, (n, some (.row et e xs)) :: r.2)
    | _, _ => let r := ownCells ls (ownRest (kindOf l) ets) n; (.leaf l :: r.1, r.2)
def oneT : (es : List EN) → TT es → Option (Σ e, T e)
  | [e], x => some ⟨e, x.1⟩
  | _, _ => none
def hasSl (es : List EN) : Bool := es.any fun e => (kinds e).any fun | .sl _ => true | _ => false
def oneOr (vs : List SV) : SV := match vs with | [v] => v | vs => .tup vs
def callSpec (nid : Nat) (s : VSpec) (args : List SV) : OT Ans :=
  toTT s.params args fun x is => .bind (s.fn x) fun r =>
    match s.own with
    | some ets => match oneT s.results r with
      | some ⟨e, y⟩ => match Nat.ble (ownCells (cells e y) ets nid).2.length 64 with
        | true => .out (mkVal e (ownCells (cells e y) ets nid).1, freezeAll is ++ (ownCells (cells e y) ets nid).2)
        | false => .fail
      | none => .fail
    | none => .out ((oneOr ((nthT s.results r).map fun p => datSV p.1 p.2)), (match hasSl s.results with | true => freezeAll is | false => []))
def ibits (op : BinOp) (k : IntKind) (x y : Int) : Int :=
  let a := BitVec.ofInt k.bits x
  let b := BitVec.ofInt k.bits y
  k.wrap (match op with | .and => a &&& b | .or => a ||| b | .xor => a ^^^ b | _ => a &&& ~~~b).toNat
def shlI (k : IntKind) (x y : Int) : Int := k.wrap (x * 2 ^ (min y.toNat k.bits))
def shrI (k : IntKind) (x y : Int) : Int := x.fdiv (2 ^ (min y.toNat k.bits))
def intOp (op : BinOp) (k : IntKind) (x y : Int) (l : Bool) : OT Ans :=
  match op with
  | .add => ret (mkI k (k.wrap (x + y)) l)
  | .sub => ret (mkI k (k.wrap (x - y)) l)
  | .mul => ret (mkI k (k.wrap (x * y)) l)
  | .quo => .guard (y != 0) (ret (mkI k (k.wrap (x.tdiv y)) l))
  | .rem => .guard (y != 0) (ret (mkI k (x.tmod y) l))
  | .and | .or | .xor | .andNot => ret (mkI k (ibits op k x y) l)
  | .eql => ret (mkB (x == y) l)
  | .neq => ret (mkB (x != y) l)
  | .lss => ret (mkB (decide (x < y)) l)
  | .leq => ret (mkB (decide (x ≤ y)) l)
  | .gtr => ret (mkB (decide (x > y)) l)
  | .geq => ret (mkB (decide (x ≥ y)) l)
  | _ => .fail
def sizeT (E : Env) (t : Nat) : Option Nat := (look E.ty t).map (·.size)
def eqFs (f : Nat → List SV → List SV → Option Bool) (size : Nat → Option Nat) (xs ys : List SV) : List (Nat × Nat) → Option Bool
  | [] => some true
  | (off, t) :: r => match size t with
    | some n => match Nat.ble (off + n) xs.length && Nat.ble (off + n) ys.length with
      | true => match f t ((xs.drop off).take n) ((ys.drop off).take n), eqFs f size xs ys r with
        | some a, some b => some (a && b)
        | _, _ => none
      | false => none
    | none => none
def eqTy (E : Env) : Nat → Nat → List SV → List SV → Option Bool
  | 0, _, _, _ => none
  | n + 1, t, xs, ys => match look E.ty t with
    | some { d := .int _, .. } => match xs, ys with
      | [x], [y] => match asI x, asI y with
        | some (k, a, _), some (k', b, _) => if k = k' then some (a == b) else none
        | _, _ => none
      | _, _ => none
    | some { d := .bool, .. } => match xs, ys with
      | [x], [y] => match asB x, asB y with
        | some (a, _), some (b, _) => some (a == b)
        | _, _ => none
      | _, _ => none
    | some { d := .str, .. } => match xs, ys with
      | [x], [y] => match asS x, asS y with
        | some a, some b => some (a == b)
        | _, _ => none
      | _, _ => none
    | some { d := .st fs, eq := true, .. } => eqFs (eqTy E n) (sizeT E) xs ys fs
    | _ => none
def eqInts : List SV → List SV → Option Bool
  | [], [] => some true
  | x :: xs, y :: ys => match asI x, asI y, eqInts xs ys with
    | some (k, a, _), some (k', b, _), some r => if k = k' then some (a == b && r) else none
    | _, _, _ => none
  | _, _ => none
def binT (E : Env) (op : BinOp) (t : Nat) (x y : SV) : OT Ans :=
  match asI x, asI y with
  | some (k, a, la), some (k', b, lb) => match op with
    | .shl => .guard (decide (0 ≤ b)) (ret (mkI k (shlI k a b) (la && lb)))
    | .shr => .guard (decide (0 ≤ b)) (ret (mkI k (shrI k a b) (la && lb)))
    | _ => if k = k' then intOp op k a b (la && lb) else .fail
  | _, _ => match asS x, asS y with
    | some a, some b => match op with
      | .eql => ret (.leaf (.bool (a == b)))
      | .neq => ret (.leaf (.bool (a != b)))
      | _ => .fail
    | _, _ => match asB x, asB y with
      | some (a, la), some (b, lb) => match op, look E.ty t with
        | .eql, some { d := .bool, .. } => ret (mkB (a == b) (la && lb))
        | .neq, some { d := .bool, .. } => ret (mkB (!(a == b)) (la && lb))
        | _, _ => .fail
      | _, _ => match x, y, look E.ty t with
        | .agg xs, .agg ys, some { d := .st _, eq := true, .. } => match op, eqTy E 8 t xs ys with
          | .eql, some r => ret (.leaf (.bool r))
          | .neq, some r => ret (.leaf (.bool !r))
          | _, _ => .fail
        | .agg xs, .agg ys, some { d := .arr n el, .. } => match look E.ty el with
          | some { d := .int _, .. } => match Nat.beq xs.length n && Nat.beq ys.length n, eqInts xs ys with
            | true, some r => match op with
              | .eql => ret (.leaf (.bool r))
              | .neq => ret (.leaf (.bool !r))
              | _ => .fail
            | _, _ => .fail
          | _ => .fail
        | .nn _ _, .lit (.slice none 0 0), some { d := .sl _, .. } => match op with
          | .eql => ret (.lit (.bool false))
          | .neq => ret (.lit (.bool true))
          | _ => .fail
        | .lit (.slice none 0 0), .lit (.slice none 0 0), some { d := .sl _, .. } => match op with
          | .eql => ret (.lit (.bool true))
          | .neq => ret (.lit (.bool false))
          | _ => .fail
        | _, _, _ => .fail
def unT (op : UnOp) (x : SV) : OT Ans :=
  match op, asI x, asB x with
  | .neg, some (k, n, l), _ => ret (mkI k (k.wrap (0 - n)) l)
  | .xor, some (k, n, l), _ => ret (mkI k (ibits .xor k (if k.signed then -1 else k.max) n) l)
  | .not, _, some (b, l) => ret (mkB (!b) l)
  | _, _, _ => .fail
def takeN {α : Type} (l : List α) (off n : Nat) : List α := (l.drop off).take n
def layN {α : Type} (l : List α) (off : Nat) : List α → List α
  | [] => l
  | x :: xs => layN (l.set off x) (off + 1) xs
def aggOr (agg : Bool) (cs : List SV) : OT Ans :=
  match agg, cs with
  | true, cs => ret (.agg cs)
  | false, [c] => ret c
  | false, _ => .fail
def TyI.agg (t : TyI) : Bool := match t.d with | .st _ | .arr _ _ => true | _ => false
def loadCs (t : TyI) (cs : List SV) (off : Nat) : OT Ans :=
  let l := takeN cs off t.size
  match Nat.beq l.length t.size with
  | true => aggOr t.agg l
  | false => .fail
def loadT (t : TyI) (p : SV) : OT Ans :=
  match p with
  | .bptr id off => .get id fun
    | some (.blk cs) => loadCs t cs off
    | _ => .fail
  | .rptr ls => loadCs t (ls.map .leaf) 0
  | .optr id idx off => .get id fun
    | some (.row _ e xs) => loadCs t ((cells e (rd xs idx)).map .leaf) off
    | _ => .fail
  | _ => .fail
def storeT (t : TyI) (p v : SV) : OT Ans :=
  match Nat.beq v.cells.length t.size && v.cells.all cellSV with
  | false => .fail
  | true => match p with
    | .bptr id off => .get id fun
      | some (.blk cs) => match Nat.ble (off + t.size) cs.length with
        | true => .out ((.lit (.tuple #[])), [(id, some (.blk (layN cs off v.cells)))])
        | false => .fail
      | _ => .fail
    | .optr id idx off => .get id fun
      | some (.row et e xs) => toLeaves (takeN (kinds e) off t.size) v.cells fun ls is =>
        match is.any (Nat.beq id) || !Nat.ble (off + t.size) (sz e) with
        | true => .fail
        | false => onSome (ofCells e (layN (cells e (rd xs idx)) off ls)) fun x =>
          .out ((.lit (.tuple #[])), (freezeAll is ++ [(id, some (.row et e (xs.set idx x)))]))
      | _ => .fail
    | _ => .fail
def fieldAddrT (E : Env) (t : Nat) (p : SV) (f : Nat) : OT Ans :=
  match look E.ty t with
  | some { d := .st fs, .. } => match fs[f]? with
    | some (off, _) => match p with
      | .bptr id o => ret (.bptr id (o + off))
      | .rptr ls => ret (.rptr (ls.drop off))
      | .optr id i o => ret (.optr id i (o + off))
      | _ => .fail
    | none => .fail
  | _ => .fail
def fieldT (E : Env) (t : Nat) (x : SV) (f : Nat) : OT Ans :=
  match look E.ty t with
  | some { d := .st fs, .. } => match fs[f]? with
    | some (off, ft) => match look E.ty ft, x with
      | some i, .agg cs => loadCs i cs off
      | _, _ => .fail
    | none => .fail
  | _ => .fail
def elemIs (E : Env) (t : Nat) (e : EN) : Bool :=
  match look E.ty t with
  | some { d := .sl el, .. } => match sizeT E el with
    | some s => Nat.beq s (sz e)
    | none => false
  | _ => false
def indexAddrT (E : Env) (t : Nat) (x i : SV) : OT Ans :=
  match asI i with
  | none => .fail
  | some (_, n, l) => match x with
    | .leaf (.sl e xs) => match elemIs E t e with
      | true => .guard (decide (0 ≤ n ∧ n < (xs.length : Int))) (ret (.rptr (cells e (rd xs n.toNat))))
      | false => .fail
    | .own id => .get id fun
      | some (.row _ e xs) => match elemIs E t e with
        | true => .guard (decide (0 ≤ n ∧ n < (xs.length : Int))) (ret (.optr id n.toNat 0))
        | false => .fail
      | _ => .fail
    | .win id lo len => .get id fun
      | some (.row _ e _) => match elemIs E t e with
        | true => .guard (decide (0 ≤ n ∧ n < (len : Int))) (ret (.optr id (lo + n.toNat) 0))
        | false => .fail
      | _ => .fail
    | .bptr id off => match l, look E.ty t with
      | true, some { d := .arr len el, .. } => match decide (0 ≤ n ∧ n < (len : Int)), sizeT E el with
        | true, some s => ret (.bptr id (off + n.toNat * s))
        | _, _ => .fail
      | _, _ => .fail
    | _ => .fail
def firstN (e : EN) (xs : List (T e)) : Nat → Nat → List Leaf
  | 0, _ => []
  | n + 1, i => cells e (rd xs i) ++ firstN e xs n (i + 1)
def arrayAtT (E : Env) (t : Nat) (x : SV) : OT Ans :=
  match look E.ty t with
  | some { d := .arr n _, .. } => match x with
    | .leaf (.sl e xs) => match Nat.beq (sz e) 1 && Nat.blt 0 n with
      | true => .guard (decide (n ≤ xs.length)) (ret (.rptr (firstN e xs n 0)))
      | false => .fail
    | _ => .fail
  | _ => .fail
def lenT (E : Env) (argTypes : List Nat) (x : SV) : OT Ans :=
  match argTypes with
  | [t] => match look E.ty t with
    | some { d := .sl _, .. } => match x with
      | .leaf (.sl _ xs) => ret (.leaf (.int .i64 xs.length))
      | .lit (.slice none 0 0) => ret (.lit (.int .i64 0))
      | .own id => .get id fun
        | some (.row _ _ xs) => ret (.leaf (.int .i64 xs.length))
        | _ => .fail
      | .win _ _ len => ret (.leaf (.int .i64 len))
      | _ => .fail
    | some { d := .str, .. } => match x with
      | .leaf (.str s) => ret (.leaf (.int .i64 s.length))
      | .lit (.string b) => ret (ofConst1 (.int .i64 b.size))
      | _ => .fail
    | some { d := .arr n _, .. } => ret (ofConst1 (.int .i64 n))
    | _ => .fail
  | _ => .fail
def indexT (E : Env) (t : Nat) (x i : SV) : OT Ans :=
  match asI i with
  | none => .fail
  | some (_, n, l) => match look E.ty t with
    | some { d := .str, .. } => match asS x with
      | some s => .guard (decide (0 ≤ n ∧ n < (s.length : Int))) (ret (.leaf (.int .u8 (rd (e := .int .u8) s n.toNat))))
      | none => .fail
    | some { d := .arr len el, .. } => match l, x with
      | true, .agg cs => match decide (0 ≤ n ∧ n < (len : Int)), look E.ty el with
        | true, some ti => loadCs ti cs (n.toNat * ti.size)
        | _, _ => .fail
      | _, _ => .fail
    | _ => .fail
def optI (d : Int) : Option SV → Option Int
  | none => some d
  | some v => match asI v with | some (_, n, _) => some n | none => none
def chunk (s : Nat) : Nat → List SV → List SV
  | 0, _ => []
  | n + 1, cs => (match cs.take s with | [c] => c | l => .agg l) :: chunk s n (cs.drop s)
def partT (n : Nat) (lo hi mx : Option SV) (f : Nat → Nat → Nat → OT Ans) : OT Ans :=
  match optI 0 lo, optI n hi, optI n mx, hi.isNone && mx.isSome with
  | some l, some h, some m, false => .guard (decide (0 ≤ l ∧ l ≤ h ∧ h ≤ m ∧ m ≤ (n : Int))) (f l.toNat h.toNat m.toNat)
  | _, _, _, _ => .fail
def sliceT (E : Env) (t : Nat) (x : SV) (lo hi mx : Option SV) : OT Ans :=
  match x with
  | .leaf (.sl e xs) => match elemIs E t e with
    | true => partT xs.length lo hi mx fun l h _ => ret (.leaf (.sl e ((xs.take h).drop l)))
    | false => .fail
  | .own id => .get id fun
    | some (.row _ e xs) => match elemIs E t e with
      | true => partT xs.length lo hi mx fun l h _ => ret (.win id l (h - l))
      | false => .fail
    | _ => .fail
  | .win id o len => .get id fun
    | some (.row _ e _) => match elemIs E t e with
      | true => partT len lo hi mx fun l h _ => ret (.win id (o + l) (h - l))
      | false => .fail
    | _ => .fail
  | .lit (.slice none 0 0) => match look E.ty t with
    | some { d := .sl el, .. } => match sizeT E el with
      | some _ => partT 0 lo hi mx fun _ _ _ => ret x
      | none => .fail
    | _ => .fail
  | .bptr id 0 => match lo, hi, mx, look E.ty t with
    | none, none, none, some { d := .arr n el, .. } => match look E.ty el with
      | some { en := some e, size := s, .. } => .get id fun
        | some (.blk cs) => match Nat.beq cs.length (n * s) && Nat.ble (n * s) 16777216 && cs.all cellSV, Nat.beq s (sz e) with
          | true, true => toElems e (chunk s n cs) fun xs is => .out ((.leaf (.sl e xs)), freezeAll (id :: is))
          | _, _ => .fail
        | _ => .fail
      | _ => .fail
    | _, _, _, _ => .fail
  | _ => .fail
def sliceN (E : Env) (nid t : Nat) (x : SV) (lo hi mx : Option SV) : OT Ans :=
  match x, lo, hi, mx with
  | .own id, none, some (.lit (.int _ (.ofNat 0))), none => .get id fun
    | some (.row et e _) => match elemIs E t e with
      | true => .out (.own nid, [(id, none), (nid, some (.row et e []))])
      | false => .fail
    | _ => .fail
  | _, _, _, _ => sliceT E t x lo hi mx
def elemEN (E : Env) (t : Nat) : Option (Nat × EN) :=
  match look E.ty t with
  | some { d := .sl el, .. } => match look E.ty el with
    | some { en := some e, .. } => some (el, e)
    | _ => none
  | _ => none
def big : Nat := 1073741824
def seqOf (x : SV) (f : (e : EN) → List (T e) → OT Ans) : OT Ans :=
  match x with
  | .leaf (.sl e xs) => f e xs
  | .nn e xs => f e xs
  | .own id => .get id fun
    | some (.row _ e xs) => f e xs
    | _ => .fail
  | .win id lo len => .get id fun
    | some (.row _ e xs) => f e ((xs.drop lo).take len)
    | _ => .fail
  | _ => .fail
def appendTo (nid et : Nat) (e : EN) (s : SV) (ys : List (T e)) : OT Ans :=
  match s with
  | .own id => .get id fun
    | some (.row et' e' xs) => match Nat.beq et et' with
      | true => if h : e' = e then
          .guard (decide (xs.length + ys.length ≤ big)) (.out ((.own nid), [(id, none), (nid, some (.row et e (castT h xs ++ ys)))]))
        else .fail
      | false => .fail
    | _ => .fail
  | .lit (.slice none 0 0) => .guard (decide (ys.length ≤ big)) (.out ((.own nid), [(nid, some (.row et e ys))]))
  | _ => .fail
def appendT (nid et : Nat) (e : EN) (s x : SV) : OT Ans :=
  match x with
  | .lit (.slice none 0 0) => appendTo nid et e s []
  | _ => seqOf x fun e' ys => if h : e' = e then appendTo nid et e s (castT h ys) else .fail
def appendZ (nid et : Nat) (e : EN) (s x : SV) : OT Ans :=
  match s, asI x with
  | .lit (.slice none 0 0), some (_, n, _) => .guard (decide (0 ≤ n ∧ n ≤ (big : Int))) (.out (.own nid, [(nid, some (.row et e (List.replicate n.toNat (zeroT e))))]))
  | _, _ => .fail
def capT (E : Env) (argTypes : List Nat) (x : SV) : OT Ans :=
  match argTypes, x with
  | [t], .lit (.slice none 0 0) => match look E.ty t with
    | some { d := .sl _, .. } => ret (.lit (.int .i64 0))
    | _ => .fail
  | _, _ => .fail
def copyT (E : Env) (t : Nat) (dst src : SV) : OT Ans :=
  seqOf src fun e ys => match elemIs E t e && Nat.beq (sz e) 1 with
    | false => .fail
    | true => match dst with
      | .own id => .get id fun
        | some (.row et e' xs) => if h : e = e' then
            .out (.leaf (.int .i64 (min ys.length xs.length : Nat)), [(id, some (.row et e' (castT h (ys.take xs.length) ++ xs.drop (min ys.length xs.length))))])
          else .fail
        | _ => .fail
      | .win id lo len => .get id fun
        | some (.row et e' xs) => if h : e = e' then
            .out (.leaf (.int .i64 (min ys.length len : Nat)), [(id, some (.row et e' (xs.take lo ++ castT h (ys.take len) ++ xs.drop (lo + min ys.length len))))])
          else .fail
        | _ => .fail
      | _ => .fail
def clearT (E : Env) (t : Nat) (x : SV) : OT Ans :=
  match x with
  | .own id => .get id fun
    | some (.row et e xs) => match elemEN E t with
      | some (_, e') => if e' = e then .out (.lit (.tuple #[]), [(id, some (.row et e (List.replicate xs.length (zeroT e))))]) else .fail
      | none => .fail
    | _ => .fail
  | .lit (.slice none 0 0) => match look E.ty t with
    | some { d := .sl _, .. } => ret (.lit (.tuple #[]))
    | _ => .fail
  | _ => .fail
def minT (lt : Bool) : SV → List SV → OT Ans
  | x, [] => ret x
  | x, y :: r => match asI x, asI y with
    | some (k, a, la), some (k', b, lb) => if k = k' then minT lt (mkI k (match lt with | true => (if b < a then b else a) | false => (if b > a then b else a)) (la && lb)) r else .fail
    | _, _ => .fail
def builtinT (E : Env) (nid : Nat) (b : Builtin) (argTypes : List Nat) (args : List SV) : OT Ans :=
  match b, args with
  | .len, [x] => lenT E argTypes x
  | .cap, [x] => capT E argTypes x
  | .append, [s, x] => match argTypes with
    | [t, t'] => match Nat.beq t t', elemEN E t with
      | true, some (el, e) => appendT nid el e s x
      | false, some (el, e) => match look E.ty t' with
        | some { d := .int _, .. } => appendZ nid el e s x
        | _ => .fail
      | _, _ => .fail
    | _ => .fail
  | .copy, [d, s] => match argTypes with
    | [t, _] => copyT E t d s
    | _ => .fail
  | .clear, [x] => match argTypes with
    | [t] => clearT E t x
    | _ => .fail
  | .min, x :: l => minT true x l
  | .max, x :: l => minT false x l
  | _, _ => .fail
def convT (E : Env) (src dst : Nat) (x : SV) : OT Ans :=
  match look E.ty src, look E.ty dst with
  | some { d := .int _, .. }, some { d := .int k, .. } => match asI x with
    | some (_, n, l) => ret (mkI k (k.wrap n) l)
    | none => .fail
  | some { d := .str, .. }, some { d := .str, .. } => match asS x with
    | some _ => ret x
    | none => .fail
  | some { d := .sl el, .. }, some { d := .str, .. } => match look E.ty el with
    | some { d := .int .u8, .. } => match x with
      | .lit (.slice none 0 0) => ret (.leaf (.str []))
      | _ => seqOf x fun e xs => match e, xs with
        | .int .u8, xs => ret (.leaf (.str xs))
        | _, _ => .fail
    | _ => .fail
  | some { d := .str, .. }, some { d := .sl el, .. } => match look E.ty el, asS x with
    | some { d := .int .u8, .. }, some s => ret (.leaf (.sl (.int .u8) s))
    | _, _ => .fail
  | _, _ => .fail
def makeSliceT (E : Env) (nid : Nat) (t : Nat) (len cap : SV) : OT Ans :=
  match look E.ty t, asI len, asI cap with
  | some { d := .sl el, .. }, some (_, n, _), some (_, c, _) => match look E.ty el with
    | some { en := some e, .. } => .guard (decide (0 ≤ n ∧ n ≤ c ∧ c ≤ (big : Int))) (.out ((.own nid), [(nid, some (.row el e (List.replicate n.toNat (zeroT e))))]))
    | _ => .fail
  | _, _, _ => .fail
def fillT (place : Nat → Option (Nat × Nat)) (cs : List SV) : List (Nat × SV) → Option (List SV)
  | [] => some cs
  | (i, v) :: r => match place i with
    | some (off, s) => match Nat.beq v.cells.length s && Nat.ble (off + s) cs.length && !anySV v with
      | true => fillT place (layN cs off v.cells) r
      | false => none
    | none => none
def buildT (E : Env) (t : Nat) (parts : List (Nat × SV)) : OT Ans :=
  match look E.ty t with
  | some { d := .st fs, zero := z, .. } => onSome (fillT (fun i => (fs[i]?).bind fun p => (sizeT E p.2).map fun s => (p.1, s)) z parts) fun cs => ret (.agg cs)
  | some { d := .arr _ el, zero := z, .. } => onSome (sizeT E el) fun s => onSome (fillT (fun i => some (i * s, s)) z parts) fun cs => ret (.agg cs)
  | _ => .fail
def repeatN {α : Type} (l : List α) : Nat → List α
  | 0 => []
  | n + 1 => l ++ repeatN l n
def buildSliceT (E : Env) (nid : Nat) (t len : Nat) (parts : List (Nat × SV)) : OT Ans :=
  match look E.ty t with
  | some { d := .sl el, .. } => match look E.ty el with
    | some { en := some e, size := s, zero := z, .. } =>
      match Nat.beq s (sz e) && Nat.ble (len * s) 16777216 with
      | true => onSome (fillT (fun i => some (i * s, s)) (repeatN z len) parts) fun cs => match cs.all cellSV with
        | false => .fail
        | true => toElems e (chunk s len cs) fun xs is => .out ((.own nid), (freezeAll is ++ [(nid, some (.row el e xs))]))
      | false => .fail
    | _ => .fail
  | _ => .fail
def ev (tmps : List SV) : Operand → SV
  | .tmp t => (tmps[t]?).getD .any
  | .const v => ofConst v
  | .global _ => .any
  | .func f => .fn f [] []
def opT (E : Env) (ρ : Operand → SV) (nid : Nat) (o : Op) : OT Ans :=
  match o with
  | .move x | .assign x => ret (ρ x)
  | .pick c a b => match asB (ρ c) with
    | some (t, true) => match t with | true => ret (ρ a) | false => ret (ρ b)
    | some (t, false) => match asB (ρ a), asB (ρ b) with
      | some (x, _), some (y, _) => ret (.leaf (.bool (match t with | true => x | false => y)))
      | _, _ => .ite t (ret (ρ a)) (ret (ρ b))
    | none => .fail
  | .alloc t => match look E.ty t with
    | some i => .out ((.bptr nid 0), [(nid, some (.blk i.zero))])
    | none => .fail
  | .box t x => match sizeT E t with
    | some s => match Nat.beq (ρ x).cells.length s && !anySV (ρ x) with
      | true => .out ((.bptr nid 0), [(nid, some (.blk (ρ x).cells))])
      | false => .fail
    | none => .fail
  | .build t ps => buildT E t (ps.toList.map fun p => (p.1, ρ p.2))
  | .buildSlice t n ps => buildSliceT E nid t n (ps.toList.map fun p => (p.1, ρ p.2))
  | .load t a => match look E.ty t with | some i => loadT i (ρ a) | none => .fail
  | .store t a x => match look E.ty t with | some i => storeT i (ρ a) (ρ x) | none => .fail
  | .nilCheck x => match ρ x with
    | .bptr id off => ret (.bptr id off)
    | .rptr ls => ret (.rptr ls)
    | .optr a b c => ret (.optr a b c)
    | .fn f a b => ret (.fn f a b)
    | _ => .fail
  | .binOp op t x y _ => binT E op t (ρ x) (ρ y)
  | .unOp op _ x => unT op (ρ x)
  | .convert s d x => convT E s d (ρ x)
  | .makeFunc (.func f) a c => ret (.fn f (a.toList.map ρ) (c.toList.map ρ))
  | .makeSlice t l c => makeSliceT E nid t (ρ l) (ρ c)
  | .slice t x lo hi mx => sliceN E nid t (ρ x) (lo.map ρ) (hi.map ρ) (mx.map ρ)
  | .fieldAddr t x f => fieldAddrT E t (ρ x) f
  | .field t x f => fieldT E t (ρ x) f
  | .indexAddr t x i => indexAddrT E t (ρ x) (ρ i)
  | .index t x i => indexT E t (ρ x) (ρ i)
  | .sliceToArrayPointer t x => arrayAtT E t (ρ x)
  | .makeInterface t x => match look E.ty t with
    | some { d := .str, .. } => ret (.iface t (ρ x))
    | some { d := .int _, .. } => ret (.iface t (ρ x))
    | _ => .fail
  | .extract x i => match ρ x with
    | .tup vs => match vs[i]? with | some v => ret v | none => .fail
    | _ => .fail
  | .call { callee := .builtin b, args, argTypes } => builtinT E nid b argTypes.toList (args.toList.map ρ)
  | _ => .fail
def calleeT (ρ : Operand → SV) (f : Operand) (args : Array Operand) : Option (Nat × List SV) :=
  match ρ f with
  | .fn n first captured => some (n, first ++ args.toList.map ρ ++ captured)
  | _ => none
def callOf : Op → Option (Operand × Array Operand)
  | .call { callee := .value f, args, .. } => some (f, args)
  | _ => none
inductive Ex where
  | normal | exit (id : Nat) | goto (l : Nat) | ret
  deriving DecidableEq
def setTmp (S : St) (d : Option Nat) (v : SV) : St :=
  match d with
  | some d => { S with tmps := S.tmps.set d v }
  | none => S
def tmpAt (tmps : List SV) (t : Nat) : SV := (tmps[t]?).getD .any
def wantedS (ops : Array Oper) (tmps : List SV) (o : Oper) : Option Bool :=
  match o.guard with
  | none => some true
  | some (j, want) => match (ops[j]?).bind (·.dst) with
    | none => none
    | some d => match tmpAt tmps d with
      | .lit (.bool b) => match b, want with
        | true, true | false, false => some true
        | _, _ => some false
      | .lit (.tuple _) => some false
      | _ => none
def isGuard (ops : Array Oper) (i : Nat) : Bool := ops.toList.any fun o => match o.guard with | some (j, _) => Nat.beq j i | none => false
def litV (g : Bool) (v : SV) : SV :=
  match g, v with
  | true, .leaf (.bool b) => .lit (.bool b)
  | _, v => v
def litK {R : Type} (g : Bool) (v : SV) (k : SV → Tr R) : Tr R :=
  match g, v with
  | true, .leaf (.bool b) => .ite b (k (.lit (.bool true))) (k (.lit (.bool false)))
  | _, v => k v
structure Foot where
  rd : List Nat
  wr : List Nat
  top : Bool
def callFoot (m m' : Mem) : Foot := ⟨[m.next], m'.wl.take (m'.wl.length - m.wl.length), true⟩
abbrev CallK := {R : Type} → Nat → List SV → Mem → (SV → Mem → Tr R) → Tr R
def opK (E : Env) (call : CallK) (ops : Array Oper) (base i : Nat) (o : Oper) {R : Type} (S : St) (k : St → Foot → Tr R) : Tr R :=
  match wantedS ops S.tmps o with
  | none => .fail
  | some false => k (setTmp S o.dst (.lit (.tuple #[]))) ⟨[], [], false⟩
  | some true =>
    let g := isGuard ops i
    let fin (t : OT Ans) : Tr R := t.k S.m.objs [] fun a rs => litK g a.1 fun v => k (setTmp { S with m := { S.m with objs := putAll S.m.objs a.2 } } o.dst v) ⟨rs, a.2.map (·.1), false⟩
    match callOf o.op with
    | some (f, args) => match calleeT (ev S.tmps) f args with
      | some (n, as) => match look E.specs n with
        | some s => fin (callSpec (base + 64 * i) s as)
        | none => call n as S.m fun v m' => litK g v fun v => k (setTmp { S with m := m' } o.dst v) (callFoot S.m m')
      | none => .fail
    | none => fin (opT E (ev S.tmps) (base + 64 * i) o.op)
def opsK (E : Env) (call : CallK) (ops : Array Oper) (base : Nat) {R : Type} : Nat → List Oper → St → List Foot → (St → List Foot → Tr R) → Tr R
  | _, [], S, fps, k => k S fps.reverse
  | i, o :: r, S, fps, k => opK E call ops base i o S fun S' fp => opsK E call ops base (i + 1) r S' (fp :: fps) k
def slotOf : Operand → Option Nat
  | .tmp t => some t
  | _ => none
def looks (ops : Array Oper) (o : Oper) : List Nat :=
  (o.op.operands.toList.filterMap slotOf) ++ (match o.guard with | some (g, _) => ((ops[g]?).bind (·.dst)).toList | none => [])
def inB (n : Nat) : List Nat → Bool
  | [] => false
  | m :: r => match Nat.beq n m with | true => true | false => inB n r
def meet (a b : List Nat) : Bool := a.any fun i => inB i b
def ancOf (acc : List Nat) (o : Oper) : Nat :=
  o.after.toList.foldl (fun s e => match Region.binds .any e with | true => s ||| 2 ^ e.on ||| (acc[e.on]?).getD 0 | false => s) 0
def ancGo : List Oper → List Nat → List Nat
  | [], acc => acc
  | o :: r, acc => ancGo r (acc ++ [ancOf acc o])
def ancs (ops : List Oper) : List Nat := ancGo ops []
structure Row where
  dst : Option Nat
  looks : List Nat
  fp : Foot
  anc : Nat
def rowsOf (ops : Array Oper) (fps : List Foot) : List Row :=
  List.zipWith (fun (p : Oper × Nat) f => { dst := p.1.dst, looks := looks ops p.1, fp := f, anc := p.2 }) (ops.toList.zip (ancs ops.toList)) fps
def apartDst (a b : Row) : Bool :=
  match a.dst with
  | some d => !inB d b.looks && (match b.dst with | some d' => !Nat.beq d d' | none => true)
  | none => true
def Foot.quiet (f t : Foot) : Bool := !f.top && f.wr.isEmpty && f.rd.all fun r => !inB r t.wr && t.rd.all fun n => Nat.blt r n
def indep (a b : Row) : Bool :=
  apartDst a b && apartDst b a &&
  (match a.fp.top || b.fp.top with
   | true => a.fp.quiet b.fp || b.fp.quiet a.fp
   | false => !meet a.fp.wr b.fp.rd && !meet a.fp.wr b.fp.wr && !meet b.fp.wr a.fp.rd)
def indepAll : Nat → List Row → List Row → Bool
  | _, _, [] => true
  | i, before, b :: r => (go 0 before b) && indepAll (i + 1) (before ++ [b]) r
where
  go : Nat → List Row → Row → Bool
    | _, [], _ => true
    | j, a :: r, b => (b.anc.testBit j || indep a b) && go (j + 1) r b
def backB : Nat → List Oper → Bool
  | _, [] => true
  | i, o :: r => (o.after.toList.all fun e => !Region.binds .any e || Nat.blt e.on i) && backB (i + 1) r
def regionK (E : Env) (call : CallK) (ops : Array Oper) (draw : Bool) {R : Type} (S : St) (k : St → Tr R) : Tr R :=
  opsK E call ops S.m.next 0 ops.toList { S with m := { S.m with next := S.m.next + 64 * ops.size } } [] fun S' fps =>
    match !draw || (backB 0 ops.toList && indepAll 0 [] (rowsOf ops fps)) with
    | true => k { S' with m := { S'.m with wl := fps.flatMap (·.wr) ++ S'.m.wl } }
    | false => .fail
def CT : List CK → Type
  | [] => Unit
  | .dat k :: r => (match k with | .int _ => Int | .bool => Bool | .str => List Int | .sl e => List (T e)) × CT r
  | .own _ e :: r => List (T e) × CT r
def SigT : List (Nat × SigV) → Type
  | [] => Unit
  | (_, .dat e) :: r => T e × SigT r
  | (_, .own _ e) :: r => List (T e) × SigT r
  | (_, .var e) :: r => T e × SigT r
  | (_, .cls ks) :: r => CT ks × SigT r
  | (_, .same) :: r => SigT r
  | (_, .wrow _ e) :: r => List (T e) × SigT r
mutual
def samePtr : SV → SV → Bool
  | .bptr a i, .bptr b j => Nat.beq a b && Nat.beq i j
  | .own a, .own b => Nat.beq a b
  | .fn f a c, .fn g b d => Nat.beq f g && samePtrs a b && samePtrs c d
  | .lit (.pointer none), .lit (.pointer none) => true
  | _, _ => false
def samePtrs : List SV → List SV → Bool
  | [], [] => true
  | a :: as, b :: bs => samePtr a b && samePtrs as bs
  | _, _ => false
end
def ownRow {A : Type} (et : Nat) (e : EN) (v : SV) (f : List (T e) → List Nat → OT A) : OT A :=
  match v with
  | .lit (.slice none 0 0) => f [] []
  | .own id => .get id fun
    | some (.row et' e' xs) => match Nat.beq et et' with
      | true => if h : e' = e then f (castT h xs) [id] else .fail
      | false => .fail
    | _ => .fail
  | _ => .fail
def readCT {A : Type} : (ks : List CK) → List SV → (CT ks → List Nat → List Nat → OT A) → OT A
  | [], [], f => f () [] []
  | .dat (.int k) :: ks, v :: vs, f => toT (.int k) v fun x i => readCT ks vs fun xs is os => f (x, xs) (i ++ is) os
  | .dat .bool :: ks, v :: vs, f => toT .bool v fun x i => readCT ks vs fun xs is os => f (x, xs) (i ++ is) os
  | .dat .str :: ks, v :: vs, f => toT .str v fun x i => readCT ks vs fun xs is os => f (x, xs) (i ++ is) os
  | .dat (.sl e) :: ks, v :: vs, f => toT (.sl e) v fun x i => readCT ks vs fun xs is os => f (x, xs) (i ++ is) os
  | .own et e :: ks, v :: vs, f => ownRow et e v fun x o => readCT ks vs fun xs is os => f (x, xs) is (o ++ os)
  | _, _, _ => .fail
def readSig {A : Type} (t0 tmps : List SV) : (l : List (Nat × SigV)) → (SigT l → List Nat → List Nat → OT A) → OT A
  | [], f => f () [] []
  | (t, .dat e) :: r, f => toT e (tmpAt tmps t) fun a i => readSig t0 tmps r fun x is os => f (a, x) (i ++ is) os
  | (t, .own et e) :: r, f => ownRow et e (tmpAt tmps t) fun a o => readSig t0 tmps r fun x is os => f (a, x) is (o ++ os)
  | (t, .var e) :: r, f => match samePtr (tmpAt t0 t) (tmpAt tmps t), tmpAt tmps t with
    | true, .bptr id 0 => .get id fun
      | some (.blk cs) => toT e (mkVal e cs) fun a i => readSig t0 tmps r fun x is os => f (a, x) (i ++ is) (id :: os)
      | _ => .fail
    | _, _ => .fail
  | (t, .cls ks) :: r, f => match samePtr (tmpAt t0 t) (tmpAt tmps t), tmpAt tmps t with
    | true, .bptr id 0 => .get id fun
      | some (.blk cs) => readCT ks cs fun a i o => readSig t0 tmps r fun x is os => f (a, x) (i ++ is) (id :: o ++ os)
      | _ => .fail
    | _, _ => .fail
  | (t, .same) :: r, f => match samePtr (tmpAt t0 t) (tmpAt tmps t) with
    | true => readSig t0 tmps r f
    | false => .fail
  | (t, .wrow et e) :: r, f => match tmpAt t0 t, tmpAt tmps t with
    | .win a lo len, .win b lo' len' => match Nat.beq a b with
      | true => .guard (decide (lo = lo' ∧ len = len')) (.get b fun
        | some (.row et' e' xs) => match Nat.beq et et' with
          | true => if h : e' = e then readSig t0 tmps r fun x is os => f (castT h xs, x) is (b :: os) else .fail
          | false => .fail
        | _ => .fail)
      | false => .fail
    | _, _ => .fail
def distinctB : List Nat → Bool
  | [] => true
  | a :: r => !inB a r && distinctB r
def headCT : (ks : List CK) → CT ks → Nat → List SV × List (Nat × Option SO) × Nat
  | [], _, n => ([], [], n)
  | .dat (.int k) :: ks, (x, xs), n => let r := headCT ks xs n; (.leaf (.int k x) :: r.1, r.2)
  | .dat .bool :: ks, (x, xs), n => let r := headCT ks xs n; (.leaf (.bool x) :: r.1, r.2)
  | .dat .str :: ks, (x, xs), n => let r := headCT ks xs n; (.leaf (.str x) :: r.1, r.2)
  | .dat (.sl e) :: ks, (x, xs), n => let r := headCT ks xs n; (.leaf (.sl e x) :: r.1, r.2)
  | .own et e :: ks, (x, xs), n => let r := headCT ks xs (n + 1); (.own n :: r.1, (n, some (.row et e x)) :: r.2.1, r.2.2)
def headSig (t0 : List SV) : (l : List (Nat × SigV)) → SigT l → St → St
  | [], _, S => S
  | (t, .dat e) :: r, (a, x), S => headSig t0 r x { S with tmps := S.tmps.set t (datSV e a) }
  | (t, .own et e) :: r, (a, x), S => headSig t0 r x { tmps := S.tmps.set t (.own S.m.next), m := { S.m with objs := putH S.m.objs S.m.next (some (.row et e a)), next := S.m.next + 1 } }
  | (t, .var e) :: r, (a, x), S => match tmpAt t0 t with
    | .bptr id o => headSig t0 r x { tmps := S.tmps.set t (.bptr id o), m := { S.m with objs := putH S.m.objs id (some (.blk ((cells e a).map .leaf))) } }
    | _ => headSig t0 r x S
  | (t, .cls ks) :: r, (a, x), S => match tmpAt t0 t with
    | .bptr id o =>
      let q := headCT ks a S.m.next
      headSig t0 r x { tmps := S.tmps.set t (.bptr id o), m := { S.m with objs := putAll (putH S.m.objs id (some (.blk q.1))) q.2.1, next := q.2.2 } }
    | _ => headSig t0 r x S
  | (t, .same) :: r, x, S => headSig t0 r x { S with tmps := S.tmps.set t (tmpAt t0 t) }
  | (t, .wrow et e) :: r, (a, x), S => match tmpAt t0 t with
    | .win id lo len => headSig t0 r x { tmps := S.tmps.set t (.win id lo len), m := { S.m with objs := putH S.m.objs id (some (.row et e a)) } }
    | _ => headSig t0 r x S
def onlyWrote (n : Nat) (ids wl : List Nat) : Bool := wl.all fun i => Nat.ble n i || inB i ids
def firstRegion : Code → Option Nat
  | .region id _ _ => some id
  | .seq a b => match firstRegion a with | some i => some i | none => firstRegion b
  | .block _ c => firstRegion c
  | .loop c => firstRegion c
  | .cond _ a b => match firstRegion a with | some i => some i | none => firstRegion b
  | _ => none
def hintGo (fid i : Nat) : List ((Nat × Nat) × Hint) → Option Hint
  | [] => none
  | ((f, j), h) :: r => match Nat.beq f fid && Nat.beq j i with | true => some h | false => hintGo fid i r
def hintOf (E : Env) (fid : Nat) (c : Code) : Option Hint :=
  match firstRegion c with
  | none => none
  | some i => hintGo fid i E.hints
abbrev BodyK := {R : Type} → St → (Ex → St → Tr R) → Tr R
def unrollK (body : BodyK) : Nat → BodyK
  | 0 => fun _ _ => .fail
  | n + 1 => fun S k => body S fun e S' => match e with
    | .normal => unrollK body n S' k
    | e => k e S'
def loopHead (t0 : List SV) (m : Mem) (is : List Nat) (sl : List (Nat × SigV)) (l : SigT sl) : St :=
  headSig t0 sl l { tmps := t0.map fun _ => .any, m := { objs := putAll m.objs (freezeAll is), next := m.next, wl := [] } }
def sigOf (t0 tmps : List SV) (sl : List (Nat × SigV)) : OT (SigT sl × List Nat) :=
  readSig t0 tmps sl fun x is os => match distinctB os && !meet os is with
    | true => .out (x, is ++ os)
    | false => .fail
def codeK (E : Env) (call : CallK) (fid : Nat) : Code → BodyK
  | .skip => fun S k => k .normal S
  | .label _ => fun S k => k .normal S
  | .region _ ops draw => fun S k => regionK E call ops draw S fun S' => k .normal S'
  | .seq a b => fun S k => codeK E call fid a S fun e S' => match e with
    | .normal => codeK E call fid b S' k
    | e => k e S'
  | .cond c a b => fun S k => match ev S.tmps c with
    | .lit (.bool t) => match t with
      | true => codeK E call fid a S k
      | false => codeK E call fid b S k
    | .leaf (.bool t) => match c with
      | .tmp d => .ite t (codeK E call fid a { S with tmps := S.tmps.set d (.lit (.bool true)) } k) (codeK E call fid b { S with tmps := S.tmps.set d (.lit (.bool false)) } k)
      | _ => .fail
    | _ => .fail
  | .block id c => fun S k => codeK E call fid c S fun e S' => match e with
    | .exit i => match Nat.beq i id with | true => k .normal S' | false => k (.exit i) S'
    | e => k e S'
  | .loop c => fun S k => match hintOf E fid c with
    | none => .fail
    | some (.unroll n) => unrollK (codeK E call fid c) n S k
    | some (.head sl) => (sigOf S.tmps S.tmps sl).k S.m.objs [] fun p _ => match p with
      | (x, is) => .loop (L := SigT sl) (fun l => codeK E call fid c (loopHead S.tmps S.m is sl l) fun e S' => match e with
        | .normal => (sigOf S.tmps S'.tmps sl).k S'.m.objs [] fun q _ => match q with
          | (y, js) => match onlyWrote S.m.next is (js ++ S'.m.wl) && Nat.beq S'.tmps.length S.tmps.length with
            | true => .ret (.inl y)
            | false => .fail
        | e => .map .inr (k e { S' with m := { S'.m with wl := S'.m.wl ++ is ++ S.m.wl } })) x
  | .scope c => fun S k => codeK E call fid c S fun e S' => match e with
    | .goto _ => .fail
    | e => k e S'
  | .exit id => fun S k => k (.exit id) S
  | .goto l => fun S k => k (.goto l) S
  | .ret => fun S k => k .ret S
  | .rangeFunc .. => fun _ _ => .fail
  | .refuse _ => fun _ _ => .fail
def resultsT (E : Env) (tmps : List SV) : List ResultVar → (List SV → OT Ans) → OT Ans
  | [], f => f []
  | .tmp t :: r, f => match tmps[t]? with
    | some v => resultsT E tmps r fun vs => f (v :: vs)
    | none => .fail
  | .cell a t :: r, f => match look E.ty t, tmpAt tmps a with
    | some i, .bptr id off => .get id fun
      | some (.blk cs) =>
        let l := takeN cs off i.size
        match Nat.beq l.length i.size, i.agg, l with
        | true, true, l => resultsT E tmps r fun vs => f (.agg l :: vs)
        | true, false, [c] => resultsT E tmps r fun vs => f (c :: vs)
        | _, _, _ => .fail
      | _ => .fail
    | _, _ => .fail
def callK (E : Env) : Nat → CallK
  | 0 => fun _ _ _ _ => .fail
  | n + 1 => fun f args m k => match look E.inl f with
    | none => .fail
    | some fn => match fn.body with
      | none => .fail
      | some c => codeK E (callK E n) f c { tmps := args ++ List.replicate (fn.ntmps - args.length) (.lit (.tuple #[])), m } fun e S' => match e with
        | .normal | .ret => (resultsT E S'.tmps fn.results.toList fun vs => ret (oneOr vs)).k S'.m.objs [] fun v _ => k v.1 S'.m
        | _ => .fail
def outSV (vs : SV) (n : Nat) : List SV := match n, vs with | 1, v => [v] | _, .tup l => l | _, v => [v]
def readOwn {A : Type} : List LK → List (Option Nat) → List SV → (List Leaf → List Nat → List Nat → OT A) → OT A
  | [], _, [], f => f [] [] []
  | k :: ks, ets, v :: vs, f => match ownNext k ets, k with
    | some et, .sl e => ownRow et e v fun xs o => readOwn ks (ownRest k ets) vs fun ls is os => f (.sl e xs :: ls) is (o ++ os)
    | _, _ => toLeaf k v fun l i => readOwn ks (ownRest k ets) vs fun ls is os => f (l :: ls) (i ++ is) os
  | _, _, _, _ => .fail
def ownOutT (e : EN) (ets : List (Option Nat)) (v : SV) : OT (TT [e]) :=
  match aggSV v == isAggE e with
  | true => readOwn (kinds e) ets v.cells fun ls is os => match ofCells e ls, distinctB os && !meet os is with
    | some x, true => .out (x, ())
    | _, _ => .fail
  | false => .fail
def fnTree (E : Env) (f : Nat) (params results : List EN) (x : TT params) : Tr (TT results) :=
  callK E 9 f ((nthT params x).map fun p => datSV p.1 p.2) { objs := fun _ => none, next := 0, wl := [] } fun v m =>
    (toTT results (outSV v results.length) fun r _ => OT.out r).k m.objs [] fun r _ => .ret r
def fnTreeOwn (E : Env) (f : Nat) (params : List EN) (e : EN) (ets : List (Option Nat)) (x : TT params) : Tr (TT [e]) :=
  callK E 9 f ((nthT params x).map fun p => datSV p.1 p.2) { objs := fun _ => none, next := 0, wl := [] } fun v m =>
    (ownOutT e ets v).k m.objs [] fun r _ => .ret r
def iter {L R : Type} (step : L → Option (L ⊕ R)) : Nat → L → Option R
  | 0, _ => none
  | n + 1, l => match step l with
    | none => none
    | some (.inl l') => iter step n l'
    | some (.inr r) => some r
open Classical in
noncomputable def loopO {L R : Type} (step : L → Option (L ⊕ R)) (l : L) : Option R :=
  if h : ∃ n, (iter step n l).isSome then iter step h.choose l else none
noncomputable def Tr.den {R : Type} : Tr R → Option R
  | .ret r => some r
  | .fail => none
  | .ite b t e => if b = true then t.den else e.den
  | .guard b t => if b = true then t.den else none
  | .bind m k => m.bind fun a => (k a).den
  | .loop step l => loopO (fun x => (step x).den) l
  | .map f t => t.den.map f
end Go.Cat

namespace Go.Cat
open Go
theorem OT.k_den {A R : Type} {H : Heap} (t : OT A) : ∀ (rs : List Nat) {k : A → List Nat → Tr R} {r : R}, (t.k H rs k).den = some r → ∃ a rs', t.run H rs = some (a, rs') ∧ (k a rs').den = some r := by
  induction t with
  | fail => intro rs k r h; simp [OT.k, Tr.den] at h
  | out a => intro rs k r h; exact ⟨a, rs, rfl, h⟩
  | guard b t ih =>
    intro rs k r h
    simp only [OT.k, Tr.den] at h
    split at h
    · rename_i hb
      obtain ⟨a, rs', h1, h2⟩ := ih rs h
      exact ⟨a, rs', by simp [OT.run, hb, h1], h2⟩
    · cases h
  | ite b t e iht ihe =>
    intro rs k r h
    simp only [OT.k, Tr.den] at h
    split at h
    · rename_i hb
      obtain ⟨a, rs', h1, h2⟩ := iht rs h
      exact ⟨a, rs', by simp [OT.run, hb, h1], h2⟩
    · rename_i hb
      obtain ⟨a, rs', h1, h2⟩ := ihe rs h
      exact ⟨a, rs', by simp [OT.run, hb, h1], h2⟩
  | get id f ih =>
    intro rs k r h
    exact ih (H id) (id :: rs) h
  | bind m f ih =>
    intro rs k r h
    simp only [OT.k, Tr.den] at h
    cases m with
    | none => simp at h
    | some x =>
      obtain ⟨a, rs', h1, h2⟩ := ih x rs (by simpa using h)
      exact ⟨a, rs', by simpa [OT.run] using h1, h2⟩
theorem OT.run_mono {A : Type} {H : Heap} (t : OT A) : ∀ (rs : List Nat) {a : A} {rs' : List Nat}, t.run H rs = some (a, rs') → ∀ x ∈ rs, x ∈ rs' := by
  induction t with
  | fail => intro rs a rs' h; simp [OT.run] at h
  | out a => intro rs a rs' h; simp only [OT.run] at h; cases h; exact fun _ h => h
  | guard b t ih => intro rs a rs' h; simp only [OT.run] at h; split at h; exact ih rs h; cases h
  | ite b t e iht ihe => intro rs a rs' h; simp only [OT.run] at h; split at h; exact iht rs h; exact ihe rs h
  | get id f ih => intro rs a rs' h x hx; exact ih (H id) (id :: rs) h x (List.mem_cons_of_mem _ hx)
  | bind m f ih =>
    intro rs a rs' h
    simp only [OT.run] at h
    cases m with
    | none => simp at h
    | some x => exact ih x rs (by simpa using h)
theorem OT.run_local {A : Type} {H H' : Heap} (t : OT A) : ∀ (rs : List Nat) {a : A} {rs' : List Nat}, t.run H rs = some (a, rs') → (∀ x ∈ rs', H x = H' x) → t.run H' rs = some (a, rs') := by
  induction t with
  | fail => intro rs a rs' h; simp [OT.run] at h
  | out a => intro rs a rs' h _; exact h
  | guard b t ih => intro rs a rs' h hx; simp only [OT.run] at h ⊢; split at h; · simp only [*, if_true]; exact ih rs h hx
                    · cases h
  | ite b t e iht ihe =>
    intro rs a rs' h hx
    simp only [OT.run] at h ⊢
    split at h
    · simp only [*, if_true]; exact iht rs h hx
    · simp only [*]; exact ihe rs h hx
  | get id f ih =>
    intro rs a rs' h hx
    simp only [OT.run] at h ⊢
    have := hx id (OT.run_mono (f (H id)) (id :: rs) h id List.mem_cons_self)
    rw [← this]
    exact ih (H id) (id :: rs) h hx
  | bind m f ih =>
    intro rs a rs' h hx
    simp only [OT.run] at h ⊢
    cases m with
    | none => simp at h
    | some x => exact ih x rs (by simpa using h) hx
theorem litK_den {R : Type} {g : Bool} {v : SV} {k : SV → Tr R} : (litK g v k).den = (k (litV g v)).den := by
  unfold litK litV
  split
  · rename_i b
    simp only [Tr.den]
    cases b <;> rfl
  · rfl
def otOf (E : Env) (ρ : Operand → SV) (nid : Nat) (o : Op) : Option (OT Ans) :=
  match callOf o with
  | some (f, args) => match calleeT ρ f args with
    | some (n, as) => match look E.specs n with
      | some s => some (callSpec nid s as)
      | none => none
    | none => none
  | none => some (opT E ρ nid o)
def inlOf (E : Env) (ρ : Operand → SV) (o : Op) : Option (Nat × List SV) :=
  match callOf o with
  | some (f, args) => match calleeT ρ f args with
    | some (n, as) => match look E.specs n with
      | some _ => none
      | none => some (n, as)
    | none => none
  | none => none
theorem opT_congr (E : Env) {ρ ρ' : Operand → SV} (nid : Nat) (o : Op) (h : ∀ x ∈ o.operands, ρ x = ρ' x) : opT E ρ nid o = opT E ρ' nid o := by
  have pairs : ∀ ps : Array (Nat × Operand), (∀ x ∈ (ps.toList.map (·.2)).toArray, ρ x = ρ' x) → (ps.toList.map fun p => (p.1, ρ p.2)) = ps.toList.map fun p => (p.1, ρ' p.2) := fun ps hp =>
    List.map_congr_left fun p hm => by rw [hp p.2 (by simp only [List.mem_toArray, List.mem_map]; exact ⟨p, hm, rfl⟩)]
  have arr : ∀ as : Array Operand, (∀ x ∈ as, ρ x = ρ' x) → as.toList.map ρ = as.toList.map ρ' := fun as ha =>
    List.map_congr_left fun x hx => ha x (by simpa using hx)
  cases o <;> simp only [Op.operands] at h <;> simp only [opT]
  case build t ps => rw [pairs ps h]
  case buildSlice t n ps => rw [pairs ps h]
  case makeFunc fn first captured =>
    cases fn <;> simp only [opT]
    rw [arr first fun x hx => h x (by simp [hx]), arr captured fun x hx => h x (by simp [hx])]
  case call c =>
    obtain ⟨callee, args, argTypes⟩ := c
    cases callee <;> simp only [opT]
    rw [arr args fun x hx => h x (by simp [Call.operands, hx])]
  case slice t x lo hi mx =>
    have h0 : ρ x = ρ' x := h x (by simp)
    have hl : lo.map ρ = lo.map ρ' := by cases lo with | none => rfl | some y => simp [h y (by simp)]
    have hh : hi.map ρ = hi.map ρ' := by cases hi with | none => rfl | some y => simp [h y (by simp)]
    have hm : mx.map ρ = mx.map ρ' := by cases mx with | none => rfl | some y => simp [h y (by simp)]
    rw [h0, hl, hh, hm]
  all_goals (first | rfl | (simp_all; done))
theorem call_congr {ρ ρ' : Operand → SV} (o : Op) (h : ∀ x ∈ o.operands, ρ x = ρ' x) {f : Operand} {args : Array Operand} (hc : callOf o = some (f, args)) : calleeT ρ f args = calleeT ρ' f args := by
  unfold callOf at hc
  split at hc
  · rename_i f' args' _
    cases hc
    have hf : ρ f = ρ' f := h f (by simp [Op.operands, Call.operands])
    have ha : args.toList.map ρ = args.toList.map ρ' := List.map_congr_left fun x hx => h x (by simp only [Op.operands, Call.operands, Array.mem_append]; exact .inr (by simpa using hx))
    unfold calleeT
    rw [hf, ha]
  · cases hc
theorem otOf_congr (E : Env) {ρ ρ' : Operand → SV} (nid : Nat) (o : Op) (h : ∀ x ∈ o.operands, ρ x = ρ' x) : otOf E ρ nid o = otOf E ρ' nid o := by
  unfold otOf
  split
  · rename_i f args hc
    rw [call_congr o h hc]
  · rw [opT_congr E nid o h]
theorem inlOf_congr (E : Env) {ρ ρ' : Operand → SV} (o : Op) (h : ∀ x ∈ o.operands, ρ x = ρ' x) : inlOf E ρ o = inlOf E ρ' o := by
  unfold inlOf
  split
  · rename_i f args hc
    rw [call_congr o h hc]
  · rfl
abbrev CallRel := Nat → List SV → Mem → SV → Mem → Prop
def Foot.none : Foot := ⟨[], [], false⟩
def MFrame (m m' : Mem) : Prop := m.next ≤ m'.next ∧ ∃ new, m'.wl = new ++ m.wl ∧ ∀ id, id < m.next → id ∉ new → m'.objs id = m.objs id
inductive Core (E : Env) (R : CallRel) (ops : Array Oper) (nid : Nat) (g : Bool) (o : Oper) (tmps : List SV) (m : Mem) : SV → Mem → Foot → Prop
  | off (h : wantedS ops tmps o = some false) : Core E R ops nid g o tmps m (.lit (.tuple #[])) m ⟨[], [], false⟩
  | op (h : wantedS ops tmps o = some true) (t : OT Ans) (ht : otOf E (ev tmps) nid o.op = some t) (v : SV) (u : List (Nat × Option SO)) (rs : List Nat) (hr : t.run m.objs [] = some ((v, u), rs)) :
      Core E R ops nid g o tmps m (litV g v) { m with objs := putAll m.objs u } ⟨rs, u.map (·.1), false⟩
  | call (h : wantedS ops tmps o = some true) (n : Nat) (as : List SV) (ht : inlOf E (ev tmps) o.op = some (n, as)) (v : SV) (m' : Mem) (hr : R n as m v m') :
      Core E R ops nid g o tmps m (litV g v) m' (callFoot m m')
structure CallDen (R : CallRel) (call : CallK) : Prop where
  den : ∀ {X : Type} (n : Nat) (as : List SV) (m : Mem) (k : SV → Mem → Tr X) (r : X), (call n as m k).den = some r → ∃ v m', R n as m v m' ∧ (k v m').den = some r
def setT (tmps : List SV) (d : Option Nat) (v : SV) : List SV := match d with | some d => tmps.set d v | none => tmps
theorem setTmp_eq (S : St) (d : Option Nat) (v : SV) : setTmp S d v = ⟨setT S.tmps d v, S.m⟩ := by cases d <;> rfl
variable {E : Env} {R : CallRel} {ops : Array Oper} {base : Nat}
theorem opK_den {call : CallK} (hc : CallDen R call) {i : Nat} {o : Oper} {X : Type} {S : St} {k : St → Foot → Tr X} {r : X} (h : (opK E call ops base i o S k).den = some r) :
    ∃ v m' fp, Core E R ops (base + 64 * i) (isGuard ops i) o S.tmps S.m v m' fp ∧ (k ⟨setT S.tmps o.dst v, m'⟩ fp).den = some r := by
  unfold opK at h
  split at h
  · simp [Tr.den] at h
  · rename_i hw
    rw [setTmp_eq] at h
    exact ⟨_, _, _, .off hw, h⟩
  · rename_i hw
    simp only at h
    have fin : ∀ (t : OT Ans), otOf E (ev S.tmps) (base + 64 * i) o.op = some t →
        (t.k S.m.objs [] fun a rs => litK (isGuard ops i) a.1 fun v => k (setTmp { S with m := { S.m with objs := putAll S.m.objs a.2 } } o.dst v) ⟨rs, a.2.map (·.1), false⟩).den = some r →
        ∃ v m' fp, Core E R ops (base + 64 * i) (isGuard ops i) o S.tmps S.m v m' fp ∧ (k ⟨setT S.tmps o.dst v, m'⟩ fp).den = some r := by
      intro t ht hd
      obtain ⟨⟨v, u⟩, rs, h1, h2⟩ := OT.k_den t [] hd
      rw [litK_den, setTmp_eq] at h2
      exact ⟨_, _, _, .op hw t ht v u rs h1, h2⟩
    split at h
    · rename_i f args hcall
      split at h
      · rename_i n as hcal
        split at h
        · rename_i s hs
          exact fin _ (by simp [otOf, hcall, hcal, hs]) h
        · rename_i hs
          obtain ⟨v, m', h1, h2⟩ := hc.den _ _ _ _ _ h
          rw [litK_den, setTmp_eq] at h2
          exact ⟨_, _, _, .call hw n as (by simp [inlOf, hcall, hcal, hs]) v m' h1, h2⟩
      · simp [Tr.den] at h
    · rename_i hcall
      exact fin _ (by simp [otOf, hcall]) h
inductive RunL (E : Env) (R : CallRel) (ops : Array Oper) (base : Nat) (fps : Nat → Foot) : List Nat → St → St → Prop
  | nil (S : St) : RunL E R ops base fps [] S S
  | cons {i : Nat} {rest : List Nat} {S S' : St} {o : Oper} (hi : ops[i]? = some o) (v : SV) (m' : Mem) (hs : Core E R ops (base + 64 * i) (isGuard ops i) o S.tmps S.m v m' (fps i))
      (hr : RunL E R ops base fps rest ⟨setT S.tmps o.dst v, m'⟩ S') : RunL E R ops base fps (i :: rest) S S'
theorem RunL.congr {fps fps' : Nat → Foot} {l : List Nat} {S S' : St} (h : ∀ i ∈ l, fps i = fps' i) (hr : RunL E R ops base fps l S S') : RunL E R ops base fps' l S S' := by
  induction hr with
  | nil S => exact .nil S
  | cons hi v m' hs _ ih => exact .cons hi v m' (by rw [← h _ List.mem_cons_self]; exact hs) (ih fun j hj => h j (List.mem_cons_of_mem _ hj))
theorem opsK_den {call : CallK} (hc : CallDen R call) : ∀ (l : List Oper) (i : Nat) {X : Type} {S : St} {fps : List Foot} {k : St → List Foot → Tr X} {r : X}, (∀ j, l[j]? = ops[i + j]?) →
    (opsK E call ops base i l S fps k).den = some r →
    ∃ (S' : St) (ff : Nat → Foot), RunL E R ops base ff (List.range' i l.length) S S' ∧ (k S' (fps.reverse ++ (List.range' i l.length).map ff)).den = some r
  | [], i, X, S, fps, k, r, _, h => ⟨S, fun _ => .none, .nil S, by simpa [opsK] using h⟩
  | o :: l, i, X, S, fps, k, r, hl, h => by
    simp only [opsK] at h
    obtain ⟨v, m', fp, h1, h2⟩ := opK_den hc h
    obtain ⟨S', ff, h3, h4⟩ := opsK_den hc l (i + 1) (fun j => by have := hl (j + 1); simp only [List.getElem?_cons_succ] at this; rw [this]; congr 1; omega) h2
    refine ⟨S', fun j => if j = i then fp else ff j, ?_, ?_⟩
    · rw [List.length_cons, List.range'_succ]
      refine .cons (o := o) (by have := hl 0; simpa using this.symm) v m' (by simpa using h1) (h3.congr fun j hj => ?_)
      have := (List.mem_range'_1.1 hj).1
      simp [show j ≠ i by omega]
    · rw [List.length_cons, List.range'_succ, List.map_cons]
      have e : (List.range' (i + 1) l.length).map (fun j => if j = i then fp else ff j) = (List.range' (i + 1) l.length).map ff :=
        List.map_congr_left fun j hj => by
          have := (List.mem_range'_1.1 hj).1
          simp [show j ≠ i by omega]
      simp only [if_true, e]
      simpa using h4
end Go.Cat

namespace Go.Cat
open Go
theorem stKinds_length (s : SN) (x : STy s) : (stCells s x).length = (stKinds s).length := by
  cases s <;> rfl
theorem cells_length (e : EN) (x : T e) : (cells e x).length = sz e := by
  cases e <;> first | rfl | exact stKinds_length _ _
theorem stOf_cells (s : SN) (l : List Leaf) (x : STy s) (h : stOf s l = some x) : stCells s x = l := by
  cases s <;> simp only [stOf] at h <;> split at h <;> first | (cases h; rfl) | cases h
theorem ofCells_cells (e : EN) (l : List Leaf) (x : T e) (h : ofCells e l = some x) : cells e x = l := by
  cases e with
  | int k => simp only [ofCells] at h; split at h <;> (try split at h) <;> simp_all [cells]
  | bool => simp only [ofCells] at h; split at h <;> simp_all [cells]
  | str => simp only [ofCells] at h; split at h <;> simp_all [cells]
  | sl e =>
    simp only [ofCells] at h
    split at h
    · rename_i e' xs
      split at h
      · rename_i he; subst he; cases h; rfl
      · cases h
    · cases h
  | st s => exact stOf_cells s l x h
abbrev Snap := Nat → Option Obj
def Snap.cell? (ro : Snap) (a : Addr) : Option Value :=
  match ro a.block with
  | some (.cells c _ _) => if a.spot.isSome then none else c[a.off]?
  | _ => none
def Snap.le (ro : Snap) (w : World) : Prop := ∀ b o, ro b = some o → w.heap[b]? = some o
def Snap.ext (r r' : Snap) : Prop := ∀ b o, r b = some o → r' b = some o
theorem Snap.ext_refl (r : Snap) : r.ext r := fun _ _ h => h
theorem Snap.ext_trans {a b c : Snap} (h : a.ext b) (k : b.ext c) : a.ext c := fun _ _ x => k _ _ (h _ _ x)
theorem Snap.cell_le {ro : Snap} {w : World} (h : ro.le w) {a : Addr} {v : Value} (hc : ro.cell? a = some v) : w.cell? a = some v := by
  unfold Snap.cell? at hc
  unfold World.cell?
  cases hb : ro a.block with
  | none => simp [hb] at hc
  | some o =>
    rw [h _ _ hb]
    rw [hb] at hc
    cases o <;> simp_all
theorem Snap.cell_ext {r r' : Snap} (h : r.ext r') {a : Addr} {v : Value} (hc : r.cell? a = some v) : r'.cell? a = some v := by
  unfold Snap.cell? at *
  cases hb : r a.block with
  | none => simp [hb] at hc
  | some o => rw [h _ _ hb]; rw [hb] at hc; exact hc
inductive Rep (ro : Snap) : Leaf → Value → Prop
  | int (k : IntKind) (n : Int) (h : rngB k n = true) : Rep ro (.int k n) (.int k n)
  | bool (b : Bool) : Rep ro (.bool b) (.bool b)
  | str (b : ByteArray) (h : b.size ≤ maxLen) : Rep ro (.str (strOf b)) (.string b)
  | nil (e : EN) : Rep ro (.sl e []) (.slice none 0 0)
  | sl (e : EN) (xs : List (T e)) (a : Addr) (cap : Nat) (us : Nat → Nat → Value) (hs : a.spot = none ∨ cap = 0) (hc : xs.length ≤ cap) (hm : cap ≤ maxLen)
      (hcell : ∀ (i : Nat) (x : T e) (j : Nat) (l : Leaf), xs[i]? = some x → (cells e x)[j]? = some l → ro.cell? ⟨a.block, a.off + (i * sz e + j), none⟩ = some (us i j))
      (hrep : ∀ (i : Nat) (x : T e) (j : Nat) (l : Leaf), xs[i]? = some x → (cells e x)[j]? = some l → Rep ro l (us i j)) :
      Rep ro (.sl e xs) (.slice (some a) xs.length cap)
theorem Rep.mono {r r' : Snap} (h : r.ext r') {l : Leaf} {v : Value} (hr : Rep r l v) : Rep r' l v := by
  induction hr with
  | int k n h => exact .int k n h
  | bool b => exact .bool b
  | str b h => exact .str b h
  | nil e => exact .nil e
  | sl e xs a cap us hs hc hm hcell hrep ih =>
    exact .sl e xs a cap us hs hc hm (fun i x j l hi hj => Snap.cell_ext h (hcell i x j l hi hj)) ih
theorem Rep.oneCell {r : Snap} {l : Leaf} {v : Value} (hr : Rep r l v) : v.oneCell' = true := by
  cases hr <;> rfl
structure Hd where
  blk : Option Nat
  cap : Nat
  len : Nat
  esz : Nat
def Hd.val (h : Hd) : Value :=
  match h.blk with
  | none => .slice none 0 0
  | some g => .slice (some ⟨g, 0, none⟩) h.len h.cap
abbrev Pl := Nat → Option Hd
def Pl.ext (β β' : Pl) : Prop := ∀ id h, β id = some h → β' id = some h
theorem Pl.ext_refl (β : Pl) : β.ext β := fun _ _ h => h
theorem Pl.ext_trans {a b c : Pl} (h : a.ext b) (k : b.ext c) : a.ext c := fun _ _ x => k _ _ (h _ _ x)
inductive RepS (β : Pl) (ro : Snap) : SV → Value → Prop
  | leaf {l : Leaf} {v : Value} (h : Rep ro l v) : RepS β ro (.leaf l) v
  | lit {v : Value} (h : litOk v = true ∨ v = .tuple #[]) : RepS β ro (.lit v) v
  | own {id : Nat} {h : Hd} (hb : β id = some h) : RepS β ro (.own id) h.val
  | win {id lo len : Nat} {h : Hd} {a : Option Addr} {cap : Nat} (hb : β id = some h) (hl : lo + len ≤ h.len) (hc : len ≤ cap) (hm : cap ≤ maxLen)
      (hn : h.blk = none → a = none ∧ cap = 0)
      (hs : ∀ g, h.blk = some g → ∃ a', a = some a' ∧ lo + cap ≤ h.cap ∧ a'.spot = none ∧ (cap = 0 ∨ a' = ⟨g, lo * h.esz, none⟩)) :
      RepS β ro (.win id lo len) (.slice a len cap)
  | rptr {ls : List Leaf} {a : Addr} (us : Nat → Value) (hc : ∀ (j : Nat) (l : Leaf), ls[j]? = some l → ro.cell? ⟨a.block, a.off + j, none⟩ = some (us j))
      (hr : ∀ (j : Nat) (l : Leaf), ls[j]? = some l → Rep ro l (us j)) (hs : a.spot = none) : RepS β ro (.rptr ls) (.pointer (some a))
  | optr {id idx off : Nat} {h : Hd} {g : Nat} (hb : β id = some h) (hg : h.blk = some g) (hi : idx < h.len) :
      RepS β ro (.optr id idx off) (.pointer (some ⟨g, idx * h.esz + off, none⟩))
  | bptr {id off : Nat} {h : Hd} {g : Nat} (hb : β id = some h) (hg : h.blk = some g) :
      RepS β ro (.bptr id off) (.pointer (some ⟨g, off, none⟩))
  | fn {f : Nat} {fs cs : List SV} {us vs : List Value} (h1 : us.length = fs.length) (h2 : vs.length = cs.length)
      (h3 : ∀ (i : Nat) (c : SV) (u : Value), fs[i]? = some c → us[i]? = some u → RepS β ro c u) (h4 : ∀ (i : Nat) (c : SV) (u : Value), cs[i]? = some c → vs[i]? = some u → RepS β ro c u) :
      RepS β ro (.fn f fs cs) (.func (.func f) us.toArray vs.toArray)
  | iface {t : TypeId} {x : SV} {v : Value} (h : RepS β ro x v) : RepS β ro (.iface t x) (.iface t v)
  | agg {cs : List SV} {us : List Value} (h1 : us.length = cs.length) (h2 : ∀ (i : Nat) (c : SV) (u : Value), cs[i]? = some c → us[i]? = some u → RepS β ro c u) :
      RepS β ro (.agg cs) (.agg us.toArray)
  | tup {cs : List SV} {us : List Value} (h1 : us.length = cs.length) (h2 : ∀ (i : Nat) (c : SV) (u : Value), cs[i]? = some c → us[i]? = some u → RepS β ro c u) :
      RepS β ro (.tup cs) (.tuple us.toArray)
  | nn {e : EN} {xs : List (T e)} {a : Addr} {len cap : Nat} (h : Rep ro (.sl e xs) (.slice (some a) len cap)) : RepS β ro (.nn e xs) (.slice (some a) len cap)
  | any (v : Value) : RepS β ro .any v
theorem RepS.mono {β β' : Pl} {r r' : Snap} (hβ : β.ext β') (h : r.ext r') {x : SV} {v : Value} (hr : RepS β r x v) : RepS β' r' x v := by
  induction hr with
  | leaf h' => exact .leaf (h'.mono h)
  | lit h' => exact .lit h'
  | own hb => exact .own (hβ _ _ hb)
  | win hb hl hc hm hn hs => exact .win (hβ _ _ hb) hl hc hm hn hs
  | rptr us hc hr hs => exact .rptr us (fun j l hj => Snap.cell_ext h (hc j l hj)) (fun j l hj => (hr j l hj).mono h) hs
  | optr hb hg hi => exact .optr (hβ _ _ hb) hg hi
  | bptr hb hg => exact .bptr (hβ _ _ hb) hg
  | fn h1 h2 _ _ i3 i4 => exact .fn h1 h2 i3 i4
  | iface _ ih => exact .iface ih
  | agg h1 _ ih => exact .agg h1 ih
  | tup h1 _ ih => exact .tup h1 ih
  | nn h' => exact .nn (h'.mono h)
  | any v => exact .any v
def RepL (β : Pl) (ro : Snap) (cs : List SV) (us : List Value) : Prop :=
  us.length = cs.length ∧ ∀ (i : Nat) (c : SV) (u : Value), cs[i]? = some c → us[i]? = some u → RepS β ro c u
theorem RepL.mono {β β' : Pl} {r r' : Snap} (hβ : β.ext β') (h : r.ext r') {cs : List SV} {us : List Value} (hr : RepL β r cs us) : RepL β' r' cs us :=
  ⟨hr.1, fun i c u hc hu => (hr.2 i c u hc hu).mono hβ h⟩
theorem RepL.nil (β : Pl) (ro : Snap) : RepL β ro [] [] := ⟨rfl, by simp⟩
theorem RepL.cons {β : Pl} {ro : Snap} {c : SV} {u : Value} {cs : List SV} {us : List Value} (h : RepS β ro c u) (t : RepL β ro cs us) : RepL β ro (c :: cs) (u :: us) := by
  refine ⟨by simp [t.1], fun i d v hd hv => ?_⟩
  cases i with
  | zero => simp at hd hv; subst hd hv; exact h
  | succ i => exact t.2 i d v (by simpa using hd) (by simpa using hv)
theorem RepL.of_cons {β : Pl} {ro : Snap} {c : SV} {cs : List SV} {us : List Value} (h : RepL β ro (c :: cs) us) :
    ∃ u us', us = u :: us' ∧ RepS β ro c u ∧ RepL β ro cs us' := by
  cases us with
  | nil => simp [RepL] at h
  | cons u us =>
    refine ⟨u, us, rfl, h.2 0 c u rfl rfl, by simpa using h.1, fun i d v hd hv => h.2 (i + 1) d v (by simpa using hd) (by simpa using hv)⟩
theorem RepL.of_nil {β : Pl} {ro : Snap} {us : List Value} (h : RepL β ro [] us) : us = [] := List.eq_nil_of_length_eq_zero (by simpa using h.1)
theorem RepL.append {β : Pl} {ro : Snap} {cs ds : List SV} {us vs : List Value} (h : RepL β ro cs us) (k : RepL β ro ds vs) : RepL β ro (cs ++ ds) (us ++ vs) := by
  induction cs generalizing us with
  | nil => rw [h.of_nil]; exact k
  | cons c cs ih =>
    obtain ⟨u, us', rfl, h1, h2⟩ := h.of_cons
    exact .cons h1 (ih h2)
theorem RepL.drop {β : Pl} {ro : Snap} {cs : List SV} {us : List Value} (h : RepL β ro cs us) (n : Nat) : RepL β ro (cs.drop n) (us.drop n) :=
  ⟨by simp [h.1], fun i c u hc hu => h.2 (n + i) c u (by simpa using hc) (by simpa using hu)⟩
theorem RepL.take {β : Pl} {ro : Snap} {cs : List SV} {us : List Value} (h : RepL β ro cs us) (n : Nat) : RepL β ro (cs.take n) (us.take n) := by
  refine ⟨by simp [h.1], fun i c u hc hu => ?_⟩
  rw [List.getElem?_take] at hc hu
  split at hc <;> simp_all
  exact h.2 i c u hc hu
theorem RepL.set {β : Pl} {ro : Snap} {cs : List SV} {us : List Value} (h : RepL β ro cs us) (n : Nat) {c : SV} {u : Value} (hc : RepS β ro c u) : RepL β ro (cs.set n c) (us.set n u) := by
  refine ⟨by simp [h.1], fun i d v hd hv => ?_⟩
  rw [List.getElem?_set] at hd hv
  by_cases hi : n = i
  · subst hi
    simp only [if_true] at hd hv
    split at hd <;> split at hv <;> simp_all
  · simp only [hi, if_false] at hd hv
    exact h.2 i d v hd hv
def oldOf (w : World) : Snap := fun b => w.heap[b]?
structure Base (w w' : World) : Prop where
  os : w'.os = w.os
  tape : w'.tape = w.tape
  output : w'.output = w.output
  size : w.heap.size ≤ w'.heap.size
theorem Base.refl (w : World) : Base w w := ⟨rfl, rfl, rfl, Nat.le_refl _⟩
theorem Base.trans {a b c : World} (h : Base a b) (k : Base b c) : Base a c := ⟨k.os.trans h.os, k.tape.trans h.tape, k.output.trans h.output, Nat.le_trans h.size k.size⟩
def ObjAt (β : Pl) (ro : Snap) (w : World) (h : Hd) : SO → Prop
  | .row et e xs => h.esz = sz e ∧ xs.length = h.len ∧
    match h.blk with
    | none => h.len = 0
    | some g => ∃ cur, w.heap[g]? = some (.cells cur et (0, 0)) ∧ h.len ≤ h.cap ∧ h.cap ≤ maxLen ∧ cur.size = h.cap * sz e ∧
        ∀ (i : Nat) (x : T e) (j : Nat) (l : Leaf), xs[i]? = some x → (cells e x)[j]? = some l → ∃ u, cur[i * sz e + j]? = some u ∧ Rep ro l u
  | .blk cs => ∃ g cur et, h.blk = some g ∧ w.heap[g]? = some (.cells cur et (0, 0)) ∧ RepL β ro cs cur.toList
theorem ObjAt.mono {β β' : Pl} {ro ro' : Snap} {w w' : World} {h : Hd} {o : SO} (hβ : β.ext β') (hr : ro.ext ro') (hw : ∀ g, h.blk = some g → w'.heap[g]? = w.heap[g]?)
    (ho : ObjAt β ro w h o) : ObjAt β' ro' w' h o := by
  cases o with
  | row et e xs =>
    obtain ⟨h1, h2, h3⟩ := ho
    refine ⟨h1, h2, ?_⟩
    cases hb : h.blk with
    | none => simpa [hb] using h3
    | some g =>
      simp only [hb] at h3 ⊢
      obtain ⟨cur, k1, k2, k3, k4, k5⟩ := h3
      refine ⟨cur, by rw [hw g hb]; exact k1, k2, k3, k4, fun i x j l hi hj => ?_⟩
      obtain ⟨u, hu, hru⟩ := k5 i x j l hi hj
      exact ⟨u, hu, hru.mono hr⟩
  | blk cs =>
    obtain ⟨g, cur, et, h1, h2, h3⟩ := ho
    exact ⟨g, cur, et, h1, by rw [hw g h1]; exact h2, h3.mono hβ hr⟩
structure Pt extends World where
  ro0 : Snap
  defs : List Deferred := []
structure HSat (w0 : Pt) (β : Pl) (ro : Snap) (D : Nat → Prop) (objs : Heap) (w : World) : Prop where
  base : Base w0.toWorld w
  low : ∀ b, b < w0.heap.size → ro b = w0.ro0 b
  old : ∀ k, k < w0.heap.size → w.heap[k]? = w0.heap[k]?
  snap : ro.le w
  dom : ∀ id h, β id = some h → D id
  lt : ∀ id h g, β id = some h → h.blk = some g → g < w.heap.size
  obj : ∀ id o, objs id = some o → ∃ h, β id = some h ∧ ObjAt β ro w h o
  apart : ∀ id o h g, objs id = some o → β id = some h → h.blk = some g → ro g = none
  above : ∀ id o h g, objs id = some o → β id = some h → h.blk = some g → w0.heap.size ≤ g
  inj : ∀ id id' o o' h h' g, objs id = some o → objs id' = some o' → β id = some h → β id' = some h' → h.blk = some g → h'.blk = some g → id = id'
theorem HSat.defs {w0 : Pt} {β : Pl} {ro : Snap} {D : Nat → Prop} {objs : Heap} {w : World} (h : HSat w0 β ro D objs w) (d : List Deferred) : HSat { w0 with defs := d } β ro D objs w :=
  ⟨h.base, h.low, h.old, h.snap, h.dom, h.lt, h.obj, h.apart, h.above, h.inj⟩
theorem HSat.undefs {w0 : Pt} {β : Pl} {ro : Snap} {D : Nat → Prop} {objs : Heap} {w : World} {d : List Deferred} (h : HSat { w0 with defs := d } β ro D objs w) : HSat w0 β ro D objs w :=
  ⟨h.base, h.low, h.old, h.snap, h.dom, h.lt, h.obj, h.apart, h.above, h.inj⟩
theorem HSat.less {w0 : Pt} {β : Pl} {ro : Snap} {D D' : Nat → Prop} {objs objs' : Heap} {w : World} (h : HSat w0 β ro D objs w)
    (ho : ∀ id o, objs' id = some o → objs id = some o) (hD : ∀ id, D id → D' id) : HSat w0 β ro D' objs' w :=
  ⟨h.base, h.low, h.old, h.snap, fun id hh hb => hD _ (h.dom id hh hb), h.lt, fun id o hi => h.obj id o (ho _ _ hi), fun id o hh g hi => h.apart id o hh g (ho _ _ hi), fun id o hh g hi => h.above id o hh g (ho _ _ hi),
    fun id id' o o' hh hh' g h1 h2 => h.inj id id' o o' hh hh' g (ho _ _ h1) (ho _ _ h2)⟩
theorem HSat.drew {w0 : Pt} {β : Pl} {ro : Snap} {D : Nat → Prop} {objs : Heap} {w : World} (h : HSat w0 β ro D objs w) : HSat w0 β ro D objs { w with drawn := w.drawn + 1 } :=
  ⟨⟨h.base.os, h.base.tape, h.base.output, h.base.size⟩, h.low, h.old, h.snap, h.dom, h.lt, h.obj, h.apart, h.above, h.inj⟩
def Goes (w0 : Pt) (β : Pl) (ro : Snap) (D : Nat → Prop) (objs : Heap) (v : SV) (r : Result Value) : Prop :=
  ∃ u w' β' ro', r = .ok u w' ∧ RepS β' ro' v u ∧ β.ext β' ∧ ro.ext ro' ∧ HSat w0 β' ro' D objs w'
theorem Goes.pure {w0 : Pt} {β : Pl} {ro : Snap} {D D' : Nat → Prop} {objs : Heap} {w : World} {v : SV} {u : Value} (h : HSat w0 β ro D objs w) (hD : ∀ id, D id → D' id)
    (hv : RepS β ro v u) : Goes w0 β ro D' objs v (.ok u w) :=
  ⟨u, w, β, ro, rfl, hv, β.ext_refl, ro.ext_refl, h.less (fun _ _ h => h) hD⟩
open Classical in
noncomputable def Snap.plus (ro : Snap) (β : Pl) (w : World) (is : List Nat) : Snap :=
  fun b => if ∃ id ∈ is, ∃ h, β id = some h ∧ h.blk = some b then w.heap[b]? else ro b
theorem Snap.ext_plus {ro : Snap} {w : World} (h : ro.le w) (β : Pl) (is : List Nat) : ro.ext (ro.plus β w is) := by
  intro b o hb
  unfold Snap.plus
  split
  · exact h _ _ hb
  · exact hb
theorem Snap.plus_le {ro : Snap} {w : World} (h : ro.le w) (β : Pl) (is : List Nat) : (ro.plus β w is).le w := by
  intro b o hb
  unfold Snap.plus at hb
  split at hb
  · exact hb
  · exact h _ _ hb
theorem Snap.plus_mono {ro : Snap} {w : World} (h : ro.le w) (β : Pl) {is js : List Nat} (hij : ∀ i ∈ is, i ∈ js) : (ro.plus β w is).ext (ro.plus β w js) := by
  intro b o hb
  unfold Snap.plus at *
  by_cases h1 : ∃ id ∈ is, ∃ h, β id = some h ∧ h.blk = some b
  · obtain ⟨id, hi, hh⟩ := h1
    rw [if_pos ⟨id, hi, hh⟩] at hb
    rw [if_pos ⟨id, hij _ hi, hh⟩]
    exact hb
  · rw [if_neg h1] at hb
    split
    · exact h _ _ hb
    · exact hb
theorem putH_same (h : Heap) (id : Nat) (o : Option SO) : putH h id o id = o := by simp [putH]
theorem putH_other (h : Heap) {id i : Nat} (o : Option SO) (hi : i ≠ id) : putH h id o i = h i := by
  unfold putH
  cases hb : Nat.beq i id with
  | false => rfl
  | true => exact absurd (Nat.eq_of_beq_eq_true hb) hi
theorem putAll_other : ∀ (u : List (Nat × Option SO)) (h : Heap) (i : Nat), (∀ p ∈ u, p.1 ≠ i) → putAll h u i = h i
  | [], _, _, _ => rfl
  | (j, o) :: r, h, i, hi => by
    simp only [putAll]
    rw [putAll_other r _ i (fun p hp => hi p (List.mem_cons_of_mem _ hp)), putH_other h o (fun e => hi (j, o) List.mem_cons_self e.symm)]
theorem putAll_freeze : ∀ (is : List Nat) (h : Heap) (i : Nat), putAll h (freezeAll is) i = if i ∈ is then none else h i
  | [], _, _ => by simp [freezeAll, putAll]
  | j :: r, h, i => by
    have ih := putAll_freeze r (putH h j none) i
    simp only [freezeAll, List.map_cons, putAll] at ih ⊢
    rw [ih]
    by_cases h1 : i ∈ r
    · simp [h1]
    · by_cases h2 : i = j
      · subst h2; simp [h1, putH_same]
      · simp [h1, h2, putH_other]
theorem putAll_append : ∀ (u v : List (Nat × Option SO)) (h : Heap), putAll h (u ++ v) = putAll (putAll h u) v
  | [], _, _ => rfl
  | (i, o) :: r, v, h => by simp only [List.cons_append, putAll]; exact putAll_append r v _
theorem HSat.freeze {w0 : Pt} {β : Pl} {ro : Snap} {D : Nat → Prop} {objs : Heap} {w : World} (h : HSat w0 β ro D objs w) (is : List Nat) (his : ∀ i ∈ is, (objs i).isSome) :
    HSat w0 β (ro.plus β w is) D (putAll objs (freezeAll is)) w := by
  have hx := Snap.ext_plus h.snap β is
  have hold : ∀ id o, putAll objs (freezeAll is) id = some o → id ∉ is ∧ objs id = some o := by
    intro id o hi
    rw [putAll_freeze] at hi
    split at hi
    · cases hi
    · rename_i hn; exact ⟨hn, hi⟩
  refine ⟨h.base, fun b hb => ?_, h.old, Snap.plus_le h.snap β is, h.dom, h.lt, fun id o hi => ?_, fun id o hh g hi hb hg => ?_, fun id o hh g hi => h.above id o hh g (hold _ _ hi).2, fun id id' o o' hh hh' g h1 h2 => h.inj id id' o o' hh hh' g (hold _ _ h1).2 (hold _ _ h2).2⟩
  · unfold Snap.plus
    rw [if_neg]
    · exact h.low b hb
    · rintro ⟨id, hm, hh, hb', hg⟩
      obtain ⟨o, ho⟩ := Option.isSome_iff_exists.1 (his id hm)
      have := h.above id o hh b ho hb' hg
      omega
  · obtain ⟨hh, hb, ho⟩ := h.obj id o (hold _ _ hi).2
    exact ⟨hh, hb, ho.mono β.ext_refl hx (fun _ _ => rfl)⟩
  · have hi' := hold _ _ hi
    unfold Snap.plus
    rw [if_neg]
    · exact h.apart id o hh g hi'.2 hb hg
    · rintro ⟨id', hm, hh', hb', hg'⟩
      obtain ⟨o', ho'⟩ := Option.isSome_iff_exists.1 (his id' hm)
      exact hi'.1 (h.inj id' id o' o hh' hh g ho' hi'.2 hb' hb hg' hg ▸ hm)
end Go.Cat

namespace Go.Cat
open Go
variable {E : Env} {R : CallRel} {ops : Array Oper} {base : Nat}
structure Apart (ops : Array Oper) (a b : Oper) : Prop where
  l : ∀ d, a.dst = some d → d ∉ looks ops b
  r : ∀ d, b.dst = some d → d ∉ looks ops a
  d : ∀ d, a.dst = some d → b.dst ≠ some d
def CallApart (x t : Foot) : Prop := x.top = false ∧ x.wr = [] ∧ ∀ r ∈ x.rd, r ∉ t.wr ∧ ∀ n ∈ t.rd, r < n
structure FootApart (a b : Foot) : Prop where
  top : a.top = true ∨ b.top = true → CallApart a b ∨ CallApart b a
  mem : a.top = false → b.top = false → (∀ x ∈ a.wr, x ∉ b.rd) ∧ (∀ x ∈ a.wr, x ∉ b.wr) ∧ (∀ x ∈ b.wr, x ∉ a.rd)
theorem inB_mem {n : Nat} : ∀ {l : List Nat}, inB n l = false → n ∉ l
  | [], _ => by simp
  | m :: r, h => by
    simp only [inB] at h
    cases hb : Nat.beq n m with
    | true => simp [hb] at h
    | false =>
      simp only [hb] at h
      have h1 := inB_mem h
      intro hm
      rcases List.mem_cons.1 hm with rfl | hm
      · simp at hb
      · exact h1 hm
theorem meet_false {a b : List Nat} (h : meet a b = false) : ∀ x ∈ a, x ∉ b := by
  intro x hx
  have := List.any_eq_false.1 h x hx
  exact inB_mem (by simpa using this)
theorem Foot.quiet_spec {f t : Foot} (h : f.quiet t = true) : CallApart f t := by
  simp only [Foot.quiet, Bool.and_eq_true, List.isEmpty_iff, Bool.not_eq_true'] at h
  refine ⟨h.1.1, h.1.2, fun r hr => ?_⟩
  have := List.all_eq_true.1 h.2 r hr
  simp only [Bool.and_eq_true, Bool.not_eq_true'] at this
  refine ⟨inB_mem this.1, fun n hn => ?_⟩
  have := List.all_eq_true.1 this.2 n hn
  simpa [Nat.blt_eq] using this
theorem indep_spec {ops : Array Oper} {a b : Oper} {fa fb : Foot} {na nb : Nat} (h : indep ⟨a.dst, looks ops a, fa, na⟩ ⟨b.dst, looks ops b, fb, nb⟩ = true) : Apart ops a b ∧ FootApart fa fb := by
  simp only [indep, Bool.and_eq_true] at h
  obtain ⟨⟨h1, h2⟩, h3⟩ := h
  refine ⟨⟨fun d hd => ?_, fun d hd => ?_, fun d hd hd' => ?_⟩, ⟨fun ht => ?_, fun ha hb => ?_⟩⟩
  · simp only [apartDst, hd, Bool.and_eq_true, Bool.not_eq_true'] at h1
    exact inB_mem h1.1
  · simp only [apartDst, hd, Bool.and_eq_true, Bool.not_eq_true'] at h2
    exact inB_mem h2.1
  · simp only [apartDst, hd, hd', Bool.and_eq_true, Bool.not_eq_true'] at h1
    simp at h1
  · have : (fa.top || fb.top) = true := by simpa using ht
    simp only [this, Bool.or_eq_true] at h3
    exact h3.imp Foot.quiet_spec Foot.quiet_spec
  · simp only [ha, hb, Bool.or_false, Bool.and_eq_true, Bool.not_eq_true'] at h3
    exact ⟨meet_false h3.1.1, meet_false h3.1.2, meet_false h3.2⟩
theorem ev_at {tmps tmps' : List SV} {o : Oper} (h : ∀ t ∈ looks ops o, tmpAt tmps t = tmpAt tmps' t) : ∀ x ∈ o.op.operands, ev tmps x = ev tmps' x := by
  intro x hx
  cases x with
  | tmp t => exact h t (List.mem_append_left _ (List.mem_filterMap.2 ⟨.tmp t, by simpa using hx, rfl⟩))
  | _ => rfl
theorem wantedS_at {tmps tmps' : List SV} {o : Oper} (h : ∀ t ∈ looks ops o, tmpAt tmps t = tmpAt tmps' t) : wantedS ops tmps o = wantedS ops tmps' o := by
  unfold wantedS
  cases hg : o.guard with
  | none => rfl
  | some gw =>
    obtain ⟨j, want⟩ := gw
    simp only
    cases hd : (ops[j]?).bind (·.dst) with
    | none => rfl
    | some d =>
      simp only
      rw [h d (List.mem_append_right _ (by simp [hg, hd]))]
theorem Core.slots {nid : Nat} {g : Bool} {o : Oper} {tmps tmps' : List SV} {m m' : Mem} {v : SV} {fp : Foot} (h : ∀ t ∈ looks ops o, tmpAt tmps t = tmpAt tmps' t)
    (hc : Core E R ops nid g o tmps m v m' fp) : Core E R ops nid g o tmps' m v m' fp := by
  cases hc with
  | off hw => exact .off (by rw [← wantedS_at h]; exact hw)
  | op hw t ht v u rs hr => exact .op (by rw [← wantedS_at h]; exact hw) t (by rw [← otOf_congr E nid o.op (ev_at h)]; exact ht) v u rs hr
  | call hw n as ht v m' hr => exact .call (by rw [← wantedS_at h]; exact hw) n as (by rw [← inlOf_congr E o.op (ev_at h)]; exact ht) v m' hr
theorem Core.mem {nid : Nat} {g : Bool} {o : Oper} {tmps : List SV} {m m' : Mem} {v : SV} {fp : Foot} (hc : Core E R ops nid g o tmps m v m' fp) (ht : fp.top = false) :
    ∃ u : List (Nat × Option SO), u.map (·.1) = fp.wr ∧ m' = { m with objs := putAll m.objs u } ∧
      ∀ m2 : Mem, (∀ x ∈ fp.rd, m.objs x = m2.objs x) → Core E R ops nid g o tmps m2 v { m2 with objs := putAll m2.objs u } fp := by
  cases hc with
  | off hw => exact ⟨[], rfl, rfl, fun m2 _ => .off hw⟩
  | op hw t ht' v u rs hr => exact ⟨u, rfl, rfl, fun m2 h2 => .op hw t ht' v u rs (OT.run_local t [] hr h2)⟩
  | call => cases ht
theorem putAll_at : ∀ (u : List (Nat × Option SO)) (h h' : Heap) (i : Nat), (i ∉ u.map (·.1) → h i = h' i) → putAll h u i = putAll h' u i
  | [], h, h', i, hi => hi (by simp)
  | (j, o) :: r, h, h', i, hi => by
    simp only [putAll]
    refine putAll_at r _ _ i fun hn => ?_
    by_cases hij : i = j
    · subst hij; rw [putH_same, putH_same]
    · rw [putH_other _ _ hij, putH_other _ _ hij]
      exact hi (by simp only [List.map_cons, List.mem_cons, not_or]; exact ⟨hij, hn⟩)
theorem putAll_out (u : List (Nat × Option SO)) (h : Heap) (i : Nat) (hi : i ∉ u.map (·.1)) : putAll h u i = h i :=
  putAll_other u h i fun p hp e => hi (List.mem_map.2 ⟨p, hp, e⟩)
theorem putAll_comm (u u' : List (Nat × Option SO)) (h : Heap) (hd : ∀ x ∈ u.map (·.1), x ∉ u'.map (·.1)) : putAll (putAll h u) u' = putAll (putAll h u') u := by
  funext i
  by_cases hi : i ∈ u'.map (·.1)
  · have hn : i ∉ u.map (·.1) := fun h1 => hd i h1 hi
    rw [putAll_out u _ i hn]
    exact putAll_at u' _ _ i fun h' => absurd hi h'
  · rw [putAll_out u' _ i hi]
    exact putAll_at u _ _ i fun _ => (putAll_out u' _ i hi).symm
theorem tmpAt_setT {tmps : List SV} {d : Option Nat} {v : SV} {t : Nat} (h : ∀ x, d = some x → x ≠ t) : tmpAt (setT tmps d v) t = tmpAt tmps t := by
  cases d with
  | none => rfl
  | some x => simp [setT, tmpAt, List.getElem?_set_ne (h x rfl)]
theorem setT_comm {tmps : List SV} {a b : Option Nat} {v w : SV} (h : ∀ x, a = some x → b ≠ some x) : setT (setT tmps a v) b w = setT (setT tmps b w) a v := by
  cases a with
  | none => rfl
  | some x =>
    cases b with
    | none => rfl
    | some y =>
      have : x ≠ y := fun e => h x rfl (by rw [e])
      simp [setT, List.set_comm _ _ this]
theorem Core.swap (hM : ∀ n as m v m', R n as m v m' → MFrame m m') {ni nj : Nat} {gi gj : Bool} {oi oj : Oper} {tmps : List SV} {m m1 m2 : Mem} {vi vj : SV} {fi fj : Foot} (ha : Apart ops oi oj) (hf : FootApart fi fj)
    (h1 : Core E R ops ni gi oi tmps m vi m1 fi) (h2 : Core E R ops nj gj oj (setT tmps oi.dst vi) m1 vj m2 fj) :
    ∃ m1', Core E R ops nj gj oj tmps m vj m1' fj ∧ Core E R ops ni gi oi (setT tmps oj.dst vj) m1' vi m2 fi := by
  have h2' : Core E R ops nj gj oj tmps m1 vj m2 fj := h2.slots fun t ht => tmpAt_setT fun x hx e => ha.l x hx (e ▸ ht)
  have h1' : Core E R ops ni gi oi (setT tmps oj.dst vj) m vi m1 fi := h1.slots fun t ht => (tmpAt_setT fun x hx e => ha.r x hx (e ▸ ht)).symm
  have callFrame : ∀ {nid : Nat} {g : Bool} {o : Oper} {tmps : List SV} {m m' : Mem} {v : SV} {fp : Foot}, Core E R ops nid g o tmps m v m' fp → fp.top = true → ∀ r, (r ∉ fp.wr ∧ ∀ n ∈ fp.rd, r < n) → m'.objs r = m.objs r := by
    intro nid g o tmps m m' v fp hc ht r hr
    cases hc with
    | off => cases ht
    | op => cases ht
    | call _ n as _ v m' hr' =>
      obtain ⟨_, new, k1, k2⟩ := hM _ _ _ _ _ hr'
      have hnew : (callFoot m m').wr = new := by
        simp only [callFoot, k1, List.length_append, Nat.add_sub_cancel, List.take_left']
      rw [hnew] at hr
      exact k2 r (hr.2 m.next (by simp [callFoot])) hr.1
  cases hti : fi.top with
  | true =>
    rcases hf.top (.inl hti) with ⟨h0, _⟩ | ⟨q3, q2, q1⟩
    · rw [hti] at h0; cases h0
    · obtain ⟨u, e1, e2, e3⟩ := h2'.mem q3
      have hu : u = [] := by rw [q2] at e1; simpa using e1
      subst hu
      refine ⟨m, e3 m (fun x hx => callFrame h1 hti x (q1 x hx)), ?_⟩
      have : m2 = m1 := e2
      rw [this]; exact h1'
  | false =>
    cases htj : fj.top with
    | true =>
      rcases hf.top (.inr htj) with ⟨q3, q2, q1⟩ | ⟨h0, _⟩
      · obtain ⟨u, e1, e2, e3⟩ := h1'.mem q3
        have hu : u = [] := by rw [q2] at e1; simpa using e1
        subst hu
        have hm : m1 = m := e2
        subst hm
        exact ⟨m2, h2', e3 m2 (fun x hx => (callFrame h2' htj x (q1 x hx)).symm)⟩
      · rw [htj] at h0; cases h0
    | false =>
      obtain ⟨a1, a2, a3⟩ := hf.mem hti htj
      obtain ⟨ui, e1, e2, e3⟩ := h1'.mem hti
      obtain ⟨uj, f1, f2, f3⟩ := h2'.mem htj
      subst e2 f2
      refine ⟨{ m with objs := putAll m.objs uj }, f3 m (fun x hx => ?_), ?_⟩
      · exact putAll_out ui _ x fun hm => a1 x (e1 ▸ hm) hx
      · have := e3 { m with objs := putAll m.objs uj } (fun x hx => (putAll_out uj _ x fun hm => a3 x (f1 ▸ hm) hx).symm)
        simp only at this ⊢
        rw [putAll_comm ui uj m.objs (fun x hx hx' => a2 x (e1 ▸ hx) (f1 ▸ hx'))]
        exact this
theorem RunL.front (hM : ∀ n as m v m', R n as m v m' → MFrame m m') {fps : Nat → Foot} {i : Nat} {oi : Oper} (hi : ops[i]? = some oi) : ∀ (pre : List Nat) {post : List Nat} {S S' : St},
    (∀ j ∈ pre, ∀ oj, ops[j]? = some oj → Apart ops oj oi ∧ FootApart (fps j) (fps i)) → RunL E R ops base fps (pre ++ i :: post) S S' →
    ∃ v m', Core E R ops (base + 64 * i) (isGuard ops i) oi S.tmps S.m v m' (fps i) ∧ RunL E R ops base fps (pre ++ post) ⟨setT S.tmps oi.dst v, m'⟩ S'
  | [], post, S, S', _, h => by
    cases h with
    | cons hi' v m' hs hr =>
      rw [hi] at hi'; cases hi'
      exact ⟨v, m', hs, hr⟩
  | j :: pre, post, S, S', ha, h => by
    cases h with
    | @cons _ _ _ _ oj hj vj mj hs hr =>
      obtain ⟨v, m', k1, k2⟩ := RunL.front hM hi pre (fun x hx => ha x (List.mem_cons_of_mem _ hx)) hr
      obtain ⟨b1, b2⟩ := ha j List.mem_cons_self oj hj
      obtain ⟨m1', c1, c2⟩ := Core.swap hM b1 b2 hs k1
      refine ⟨v, m1', c1, ?_⟩
      rw [List.cons_append]
      refine .cons hj vj m' c2 ?_
      simp only at k2 ⊢
      rw [setT_comm (fun x hx => b1.d x hx)] at k2
      exact k2
theorem ancOf_bits (acc : List Nat) (o : Oper) {k : Nat} (h : (ancOf acc o).testBit k = true) : ∃ e ∈ o.after.toList, Region.binds .any e = true ∧ (k = e.on ∨ ((acc[e.on]?).getD 0).testBit k = true) := by
  unfold ancOf at h
  have gen : ∀ (l : List Edge) (s : Nat), (l.foldl (fun s e => match Region.binds .any e with | true => s ||| 2 ^ e.on ||| (acc[e.on]?).getD 0 | false => s) s).testBit k = true →
      s.testBit k = true ∨ ∃ e ∈ l, Region.binds .any e = true ∧ (k = e.on ∨ ((acc[e.on]?).getD 0).testBit k = true) := by
    intro l
    induction l with
    | nil => intro s hs; exact .inl hs
    | cons e l ih =>
      intro s hs
      simp only [List.foldl_cons] at hs
      rcases ih _ hs with h1 | ⟨e', he', h1⟩
      · cases hb : Region.binds .any e with
        | false => simp only [hb] at h1; exact .inl h1
        | true =>
          simp only [hb, Nat.testBit_or, Bool.or_eq_true, Nat.testBit_two_pow, decide_eq_true_eq] at h1
          rcases h1 with (h1 | h1) | h1
          · exact .inl h1
          · exact .inr ⟨e, List.mem_cons_self, hb, .inl h1.symm⟩
          · exact .inr ⟨e, List.mem_cons_self, hb, .inr h1⟩
      · exact .inr ⟨e', List.mem_cons_of_mem _ he', h1⟩
  rcases gen _ _ h with h1 | h1
  · simp at h1
  · exact h1
theorem ancGo_get : ∀ (l : List Oper) (acc : List Nat) (n : Nat), n < acc.length → (ancGo l acc)[n]? = acc[n]?
  | [], _, _, _ => rfl
  | o :: r, acc, n, h => by
    simp only [ancGo]
    rw [ancGo_get r _ n (by simp; omega), List.getElem?_append_left h]
theorem ancGo_at : ∀ (l : List Oper) (acc : List Nat) (j : Nat) (o : Oper), l[j]? = some o → ∃ acc', acc'.length = acc.length + j ∧ (ancGo l acc)[acc.length + j]? = some (ancOf acc' o) ∧ ∀ n, n < acc.length + j → (ancGo l acc)[n]? = acc'[n]?
  | [], _, _, _, h => by simp at h
  | x :: r, acc, 0, o, h => by
    simp at h; subst h
    simp only [ancGo]
    refine ⟨acc, rfl, ?_, fun n hn => ?_⟩
    · rw [Nat.add_zero, ancGo_get r _ _ (by simp)]; simp
    · rw [ancGo_get r _ n (by simp; omega), List.getElem?_append_left (by omega)]
  | x :: r, acc, j + 1, o, h => by
    simp only [ancGo]
    obtain ⟨acc', h1, h2, h3⟩ := ancGo_at r (acc ++ [ancOf acc x]) j o (by simpa using h)
    simp only [List.length_append, List.length_singleton] at h1 h2 h3
    refine ⟨acc', by omega, ?_, fun n hn => h3 n (by omega)⟩
    rw [← h2]; congr 1; omega
theorem ancs_bits {ops : List Oper} {i : Nat} {o : Oper} (hi : ops[i]? = some o) {k : Nat} (h : (((ancs ops)[i]?).getD 0).testBit k = true) :
    ∃ e ∈ o.after.toList, Region.binds .any e = true ∧ (k = e.on ∨ (e.on < i ∧ (((ancs ops)[e.on]?).getD 0).testBit k = true)) := by
  obtain ⟨acc', h1, h2, h3⟩ := ancGo_at ops [] i o hi
  simp only [List.length_nil, Nat.zero_add] at h1 h2 h3
  unfold ancs at h
  rw [h2, Option.getD_some] at h
  obtain ⟨e, he, hb, hor⟩ := ancOf_bits acc' o h
  refine ⟨e, he, hb, hor.imp id fun hk => ?_⟩
  by_cases hlt : e.on < i
  · exact ⟨hlt, by unfold ancs; rw [h3 _ hlt]; exact hk⟩
  · rw [List.getElem?_eq_none (by omega)] at hk
    simp at hk
theorem indepGo_spec : ∀ (l : List Row) (j : Nat) (b : Row), indepAll.go j l b = true → ∀ n a, l[n]? = some a → b.anc.testBit (j + n) = true ∨ indep a b = true
  | [], _, _, _, n, a, h => by simp at h
  | x :: r, j, b, hg, n, a, h => by
    simp only [indepAll.go, Bool.and_eq_true, Bool.or_eq_true] at hg
    cases n with
    | zero => simp at h; subst h; exact hg.1
    | succ n => have := indepGo_spec r (j + 1) b hg.2 n a (by simpa using h); rwa [show j + (n + 1) = j + 1 + n by omega]
theorem indepAll_spec : ∀ (l : List Row) (i : Nat) (before : List Row), indepAll i before l = true → ∀ p q a b, p < q → (before ++ l)[p]? = some a → (before ++ l)[q]? = some b → before.length ≤ q →
    b.anc.testBit p = true ∨ indep a b = true
  | [], _, before, _, p, q, a, b, _, _, hq, hl => by
    rw [List.append_nil, List.getElem?_eq_none hl] at hq; cases hq
  | x :: r, i, before, h, p, q, a, b, hpq, hp, hq, hl => by
    simp only [indepAll, Bool.and_eq_true] at h
    by_cases he : q = before.length
    · subst he
      rw [List.getElem?_append_right (Nat.le_refl _)] at hq
      simp at hq; subst hq
      rw [List.getElem?_append_left hpq] at hp
      have := indepGo_spec before 0 x h.1 p a hp
      simpa using this
    · have := indepAll_spec r (i + 1) (before ++ [x]) h.2 p q a b hpq (by simpa using hp) (by simpa using hq) (by simp; omega)
      exact this
theorem backB_spec : ∀ (l : List Oper) (i : Nat), backB i l = true → ∀ j o, l[j]? = some o → ∀ e ∈ o.after.toList, Region.binds .any e = true → e.on < i + j
  | [], _, _, _, _, h, _, _, _ => by simp at h
  | x :: r, i, hb, j, o, h, e, he, hbd => by
    simp only [backB, Bool.and_eq_true] at hb
    cases j with
    | zero =>
      simp at h; subst h
      have := List.all_eq_true.1 hb.1 e he
      simp only [hbd, Bool.not_true, Bool.false_or] at this
      have : e.on < i := by simpa [Nat.blt_eq] using this
      omega
    | succ j =>
      have := backB_spec r (i + 1) hb.2 j o (by simpa using h) e he hbd
      omega
end Go.Cat

namespace Go.Cat
open Go
variable {w0 : Pt} {β : Pl} {ro : Snap} {D : Nat → Prop} {objs : Heap} {w : World}
theorem castT_self {e : EN} (h : e = e) (xs : List (T e)) : castT h xs = xs := rfl
def leafOf (H : Heap) (k : LK) (v : SV) : Option (Leaf × List Nat) :=
  match k with
  | .int k => match asI v with | some (k', n, _) => if k' = k then some (.int k n, []) else none | none => none
  | .bool => match asB v with | some (b, _) => some (.bool b, []) | none => none
  | .str => match asS v with | some s => some (.str s, []) | none => none
  | .sl e => match v with
    | .leaf (.sl e' xs) => if e' = e then some (.sl e' xs, []) else none
    | .lit (.slice none 0 0) => some (.sl e [], [])
    | .own id => match H id with
      | some (.row _ e' xs) => if e' = e then some (.sl e' xs, [id]) else none
      | _ => none
    | .win id lo len => match H id with
      | some (.row _ e' xs) => if e' = e then some (.sl e' ((xs.drop lo).take len), [id]) else none
      | _ => none
    | _ => none
theorem toLeaf_run {A : Type} {H : Heap} {k : LK} {v : SV} {f : Leaf → List Nat → OT A} {rs : List Nat} {r : A × List Nat}
    (h : (toLeaf k v f).run H rs = some r) : ∃ l is rs', leafOf H k v = some (l, is) ∧ (f l is).run H rs' = some r := by
  unfold toLeaf at h
  unfold leafOf
  cases k with
  | int k =>
    simp only at h ⊢
    cases hi : asI v with
    | none => simp [hi, OT.run] at h
    | some p =>
      obtain ⟨k', n, b⟩ := p
      simp only [hi] at h ⊢
      split at h
      · rename_i hk; exact ⟨_, _, _, by simp [hk], h⟩
      · simp [OT.run] at h
  | bool =>
    simp only at h ⊢
    cases hi : asB v with
    | none => simp [hi, OT.run] at h
    | some p => simp only [hi] at h ⊢; exact ⟨_, _, _, rfl, h⟩
  | str =>
    simp only at h ⊢
    cases hi : asS v with
    | none => simp [hi, OT.run] at h
    | some p => simp only [hi] at h ⊢; exact ⟨_, _, _, rfl, h⟩
  | sl e =>
    simp only at h ⊢
    split at h
    · rename_i e' xs
      split at h
      · rename_i hk; exact ⟨_, _, _, by simp [hk], h⟩
      · simp [OT.run] at h
    · exact ⟨_, _, _, rfl, h⟩
    · rename_i id
      simp only [OT.run] at h ⊢
      cases hH : H id with
      | none => simp [hH, OT.run] at h
      | some o =>
        cases o with
        | blk cs => simp [hH, OT.run] at h
        | row et e' xs =>
          simp only [hH] at h ⊢
          split at h
          · rename_i hk; exact ⟨_, _, _, by simp [hk], h⟩
          · simp [OT.run] at h
    · rename_i id lo len
      simp only [OT.run] at h ⊢
      cases hH : H id with
      | none => simp [hH, OT.run] at h
      | some o =>
        cases o with
        | blk cs => simp [hH, OT.run] at h
        | row et e' xs =>
          simp only [hH] at h ⊢
          split at h
          · rename_i hk; exact ⟨_, _, _, by simp [hk], h⟩
          · simp [OT.run] at h
    · simp [OT.run] at h
theorem plus_cell {id : Nat} {h : Hd} {g : Nat} {cur : Array Value} {et : TypeId} {is : List Nat} (hm : id ∈ is) (hb : β id = some h) (hg : h.blk = some g)
    (hw : w.heap[g]? = some (.cells cur et (0, 0))) (j : Nat) : (ro.plus β w is).cell? ⟨g, j, none⟩ = cur[j]? := by
  unfold Snap.cell? Snap.plus
  rw [if_pos ⟨id, hm, h, hb, hg⟩, hw]
  simp
theorem win_rep (hs : HSat w0 β ro D objs w) {id lo len et : Nat} {e : EN} {xs : List (T e)} {h : Hd} (ho : objs id = some (.row et e xs)) (hb : β id = some h)
    {is : List Nat} (hm : id ∈ is) (hl : lo + len ≤ h.len) {a : Option Addr} {cap : Nat} (hc : len ≤ cap) (hcm : cap ≤ maxLen)
    (hn : h.blk = none → a = none ∧ cap = 0)
    (hsm : ∀ g, h.blk = some g → ∃ a', a = some a' ∧ lo + cap ≤ h.cap ∧ a'.spot = none ∧ (cap = 0 ∨ a' = ⟨g, lo * h.esz, none⟩)) :
    Rep (ro.plus β w is) (.sl e ((xs.drop lo).take len)) (.slice a len cap) := by
  obtain ⟨h', hb', h1, h2, h3⟩ := hs.obj id _ ho
  rw [hb] at hb'; cases hb'
  have hlen : ((xs.drop lo).take len).length = len := by simp; omega
  cases hblk : h.blk with
  | none =>
    obtain ⟨rfl, rfl⟩ := hn hblk
    have h0 : len = 0 := by omega
    subst h0
    simp only [List.take_zero]
    exact .nil e
  | some g =>
    simp only [hblk] at h3
    obtain ⟨cur, k1, k2, k3, k4, k5⟩ := h3
    obtain ⟨a', rfl, m1, m2, m3⟩ := hsm g hblk
    have key := Rep.sl (ro := ro.plus β w is) e ((xs.drop lo).take len) a' cap (fun i j => (cur[(lo + i) * sz e + j]?).getD default) (.inl m2) (by omega) hcm ?_ ?_
    · rw [hlen] at key; exact key
    · intro i x j l hi hj
      have hi' : i < len := by
        have := (List.getElem?_eq_some_iff.1 hi).1
        omega
      have hx : xs[lo + i]? = some x := by
        rw [List.getElem?_take] at hi
        simpa [hi'] using hi
      obtain ⟨u, hu, hr⟩ := k5 _ _ _ _ hx hj
      have ha : a' = ⟨g, lo * h.esz, none⟩ := m3.resolve_left (by omega)
      subst ha
      simp only [hu, Option.getD_some]
      rw [show lo * h.esz + (i * sz e + j) = (lo + i) * sz e + j from by rw [h1, Nat.add_mul]; omega, plus_cell hm hb hblk k1]
      exact hu
    · intro i x j l hi hj
      have hi' : i < len := by
        have := (List.getElem?_eq_some_iff.1 hi).1
        omega
      have hx : xs[lo + i]? = some x := by
        rw [List.getElem?_take] at hi
        simpa [hi'] using hi
      obtain ⟨u, hu, hr⟩ := k5 _ _ _ _ hx hj
      simp only [hu, Option.getD_some]
      exact hr.mono (Snap.ext_plus hs.snap β is)
theorem own_rep (hs : HSat w0 β ro D objs w) {id et : Nat} {e : EN} {xs : List (T e)} {h : Hd} (ho : objs id = some (.row et e xs)) (hb : β id = some h)
    {is : List Nat} (hm : id ∈ is) : Rep (ro.plus β w is) (.sl e xs) h.val := by
  obtain ⟨h', hb', h1, h2, h3⟩ := hs.obj id _ ho
  rw [hb] at hb'; cases hb'
  cases hblk : h.blk with
  | none =>
    simp only [hblk] at h3
    have : xs = [] := List.eq_nil_of_length_eq_zero (by omega)
    subst this
    simp only [Hd.val, hblk]
    exact .nil e
  | some g =>
    simp only [hblk] at h3
    obtain ⟨cur, k1, k2, k3, k4, k5⟩ := h3
    have key := win_rep (is := is) hs ho hb hm (lo := 0) (len := h.len) (a := some ⟨g, 0, none⟩) (cap := h.cap) (by omega) k2 k3 (by simp [hblk])
      (fun g' hg' => ⟨_, rfl, by omega, rfl, .inr (by rw [hblk] at hg'; cases hg'; simp)⟩)
    simp only [List.drop_zero] at key
    rw [← h2, List.take_length, h2] at key
    simpa [Hd.val, hblk] using key
theorem asI_rep {v : SV} {k : IntKind} {n : Int} {b : Bool} (h : asI v = some (k, n, b)) {u : Value} (hv : RepS β ro v u) : u = .int k n ∧ rngB k n = true := by
  unfold asI at h
  split at h
  · cases h
    cases hv with
    | lit h' => exact ⟨rfl, by simpa [litOk] using h'⟩
  · cases h
    cases hv with
    | leaf h' => cases h' with | int k n hr => exact ⟨rfl, hr⟩
  · cases h
theorem asB_rep {v : SV} {c b : Bool} (h : asB v = some (c, b)) {u : Value} (hv : RepS β ro v u) : u = .bool c := by
  unfold asB at h
  split at h
  · cases h; cases hv with | lit h' => rfl
  · cases h; cases hv with | leaf h' => cases h' with | bool b => rfl
  · cases h
theorem asS_rep {v : SV} {s : List Int} (h : asS v = some s) {u : Value} (hv : RepS β ro v u) : ∃ b, u = .string b ∧ strOf b = s ∧ b.size ≤ maxLen := by
  unfold asS at h
  split at h
  · cases h
    cases hv with
    | lit h' => exact ⟨_, rfl, rfl, by simpa [litOk, maxLen] using h'⟩
  · cases h
    cases hv with
    | leaf h' => cases h' with | str b hb => exact ⟨b, rfl, rfl, hb⟩
  · cases h
theorem leafOf_rep (hs : HSat w0 β ro D objs w) {k : LK} {v : SV} {l : Leaf} {is : List Nat} (h : leafOf objs k v = some (l, is)) {u : Value} (hv : RepS β ro v u) :
    (∀ i ∈ is, (objs i).isSome) ∧ ∀ js, (∀ i ∈ is, i ∈ js) → Rep (ro.plus β w js) l u := by
  unfold leafOf at h
  have hx : ∀ js, ro.ext (ro.plus β w js) := fun js => Snap.ext_plus hs.snap β js
  cases k with
  | int k =>
    simp only at h
    cases hi : asI v with
    | none => simp [hi] at h
    | some p =>
      obtain ⟨k', n, b⟩ := p
      simp only [hi] at h
      split at h
      · rename_i hk; subst hk; cases h
        obtain ⟨rfl, hr⟩ := asI_rep hi hv
        exact ⟨by simp, fun _ _ => .int _ _ hr⟩
      · cases h
  | bool =>
    simp only at h
    cases hi : asB v with
    | none => simp [hi] at h
    | some p => simp only [hi] at h; cases h; rw [asB_rep hi hv]; exact ⟨by simp, fun _ _ => .bool _⟩
  | str =>
    simp only at h
    cases hi : asS v with
    | none => simp [hi] at h
    | some p => simp only [hi] at h; cases h; obtain ⟨b, rfl, rfl, hb⟩ := asS_rep hi hv; exact ⟨by simp, fun _ _ => .str b hb⟩
  | sl e =>
    simp only at h
    split at h
    · split at h
      · cases h
        cases hv with
        | leaf h' => exact ⟨by simp, fun js _ => h'.mono (hx js)⟩
      · cases h
    · cases h
      cases hv with
      | lit h' => exact ⟨by simp, fun _ _ => .nil e⟩
    · rename_i id
      split at h
      · rename_i et e' xs ho
        split at h
        · cases h
          cases hv with
          | own hb => exact ⟨by simp [ho], fun js hj => own_rep hs ho hb (hj id (by simp))⟩
        · cases h
      · cases h
    · rename_i id lo len
      split at h
      · rename_i et e' xs ho
        split at h
        · cases h
          cases hv with
          | win hb hl hc hm hn hsm => exact ⟨by simp [ho], fun js hj => win_rep hs ho hb (hj id (by simp)) hl hc hm hn hsm⟩
        · cases h
      · cases h
    · cases h
def leavesOf (H : Heap) : List LK → List SV → Option (List Leaf × List Nat)
  | [], [] => some ([], [])
  | k :: ks, v :: vs => match leafOf H k v, leavesOf H ks vs with
    | some (l, i), some (ls, is) => some (l :: ls, i ++ is)
    | _, _ => none
  | _, _ => none
theorem toLeaves_run {A : Type} {H : Heap} : ∀ {ks : List LK} {vs : List SV} {f : List Leaf → List Nat → OT A} {rs : List Nat} {r : A × List Nat},
    (toLeaves ks vs f).run H rs = some r → ∃ ls is rs', leavesOf H ks vs = some (ls, is) ∧ (f ls is).run H rs' = some r
  | [], [], _, _, _, h => ⟨[], [], _, rfl, h⟩
  | k :: ks, v :: vs, f, rs, r, h => by
    simp only [toLeaves] at h
    obtain ⟨l, i, rs', h1, h2⟩ := toLeaf_run h
    obtain ⟨ls, is, rs'', h3, h4⟩ := toLeaves_run h2
    exact ⟨_, _, _, by simp [leavesOf, h1, h3], h4⟩
  | [], _ :: _, _, _, _, h => by simp [toLeaves, OT.run] at h
  | _ :: _, [], _, _, _, h => by simp [toLeaves, OT.run] at h
def RepC (ro : Snap) (ls : List Leaf) (us : List Value) : Prop := us.length = ls.length ∧ ∀ (j : Nat) (l : Leaf) (v : Value), ls[j]? = some l → us[j]? = some v → Rep ro l v
theorem RepC.nil (ro : Snap) : RepC ro [] [] := ⟨rfl, by simp⟩
theorem RepC.cons {l : Leaf} {u : Value} {ls : List Leaf} {us : List Value} (h : Rep ro l u) (t : RepC ro ls us) : RepC ro (l :: ls) (u :: us) := by
  refine ⟨by simp [t.1], fun i d v hd hv => ?_⟩
  cases i with
  | zero => simp at hd hv; subst hd hv; exact h
  | succ i => exact t.2 i d v (by simpa using hd) (by simpa using hv)
theorem RepC.mono {r r' : Snap} (h : r.ext r') {ls : List Leaf} {us : List Value} (hr : RepC r ls us) : RepC r' ls us :=
  ⟨hr.1, fun j l v hl hv => (hr.2 j l v hl hv).mono h⟩
theorem RepC.toL {ls : List Leaf} {us : List Value} (h : RepC ro ls us) : RepL β ro (ls.map .leaf) us := by
  refine ⟨by simpa using h.1, fun i c u hc hu => ?_⟩
  rw [List.getElem?_map] at hc
  cases hl : ls[i]? with
  | none => simp [hl] at hc
  | some l => simp [hl] at hc; subst hc; exact .leaf (h.2 i l u hl hu)
theorem leavesOf_rep (hs : HSat w0 β ro D objs w) : ∀ {ks : List LK} {vs : List SV} {ls : List Leaf} {is : List Nat} {us : List Value},
    leavesOf objs ks vs = some (ls, is) → RepL β ro vs us → (∀ i ∈ is, (objs i).isSome) ∧ ∀ js, (∀ i ∈ is, i ∈ js) → RepC (ro.plus β w js) ls us
  | [], [], ls, is, us, h, hr => by
    cases h; rw [hr.of_nil]; exact ⟨by simp, fun _ _ => .nil _⟩
  | k :: ks, v :: vs, ls, is, us, h, hr => by
    obtain ⟨u, us', rfl, h1, h2⟩ := hr.of_cons
    simp only [leavesOf] at h
    cases hl : leafOf objs k v with
    | none => simp [hl] at h
    | some p =>
      obtain ⟨l, i⟩ := p
      cases hq : leavesOf objs ks vs with
      | none => simp [hl, hq] at h
      | some q =>
        obtain ⟨ls', is'⟩ := q
        simp only [hl, hq] at h
        cases h
        obtain ⟨a1, a2⟩ := leafOf_rep hs hl h1
        obtain ⟨b1, b2⟩ := leavesOf_rep hs hq h2
        refine ⟨fun x hx => (List.mem_append.1 hx).elim (a1 x) (b1 x), fun js hj => .cons (a2 js fun x hx => hj x (List.mem_append_left _ hx)) (b2 js fun x hx => hj x (List.mem_append_right _ hx))⟩
  | [], _ :: _, _, _, _, h, _ => by simp [leavesOf] at h
  | _ :: _, [], _, _, _, h, _ => by simp [leavesOf] at h
def RepT (ro : Snap) (e : EN) (x : T e) (u : Value) : Prop := RepC ro (cells e x) u.cells.toList ∧ (isAggE e = true ↔ ∃ cs, u = .agg cs)
theorem RepT.mono {r r' : Snap} (h : r.ext r') {e : EN} {x : T e} {u : Value} (hr : RepT r e x u) : RepT r' e x u := ⟨hr.1.mono h, hr.2⟩
def tOf (H : Heap) (e : EN) (v : SV) : Option (T e × List Nat) :=
  match aggSV v == isAggE e with
  | true => match leavesOf H (kinds e) v.cells with
    | some (ls, is) => match ofCells e ls with
      | some x => some (x, is)
      | none => none
    | none => none
  | false => none
theorem toT_run {A : Type} {H : Heap} {e : EN} {v : SV} {f : T e → List Nat → OT A} {rs : List Nat} {r : A × List Nat} (h : (toT e v f).run H rs = some r) :
    ∃ x is rs', tOf H e v = some (x, is) ∧ (f x is).run H rs' = some r := by
  unfold toT at h
  cases ha : aggSV v == isAggE e with
  | false => simp [ha, OT.run] at h
  | true =>
    simp only [ha] at h
    obtain ⟨ls, is, rs', h1, h2⟩ := toLeaves_run h
    cases hx : ofCells e ls with
    | none => simp [hx, onSome, OT.run] at h2
    | some x => simp only [hx, onSome] at h2; exact ⟨x, is, rs', by simp [tOf, ha, h1, hx], h2⟩
theorem cells_rep {v : SV} {u : Value} (hv : RepS β ro v u) (hany : v ≠ .any) : RepL β ro v.cells u.cells.toList ∧ (aggSV v = true ↔ ∃ cs, u = .agg cs) := by
  have one : ∀ {v : SV} {u : Value}, RepS β ro v u → u.cells = #[u] → v.cells = [v] → RepL β ro v.cells u.cells.toList := by
    intro v u h h1 h2
    rw [h1, h2]
    exact .cons h (.nil _ _)
  cases hv with
  | leaf h => exact ⟨one (.leaf h) (by cases h <;> rfl) rfl, by cases h <;> simp [aggSV]⟩
  | lit h =>
    have this : ∀ cs, u ≠ .agg cs := by rintro cs rfl; simp [litOk] at h
    refine ⟨one (.lit h) ?_ rfl, by simp [aggSV]; exact fun x hx => this x hx⟩
    cases u <;> first | rfl | exact absurd rfl (this _)
  | own hb => refine ⟨one (.own hb) ?_ rfl, ?_⟩ <;> unfold Hd.val <;> split <;> simp [aggSV, Value.cells]
  | win hb hl hc hm hn hs => exact ⟨one (.win hb hl hc hm hn hs) rfl rfl, by simp [aggSV]⟩
  | rptr us h1 h2 h3 => exact ⟨one (.rptr us h1 h2 h3) rfl rfl, by simp [aggSV]⟩
  | optr hb hg hi => exact ⟨one (.optr hb hg hi) rfl rfl, by simp [aggSV]⟩
  | bptr hb hg => exact ⟨one (.bptr hb hg) rfl rfl, by simp [aggSV]⟩
  | fn h1 h2 h3 h4 => exact ⟨one (.fn h1 h2 h3 h4) rfl rfl, by simp [aggSV]⟩
  | iface h => exact ⟨one (.iface h) rfl rfl, by simp [aggSV]⟩
  | @agg cs us h1 h2 => exact ⟨⟨by simpa [SV.cells, Value.cells] using h1, by simpa [SV.cells, Value.cells] using h2⟩, by simp [aggSV]⟩
  | tup h1 h2 => exact ⟨one (.tup h1 h2) rfl rfl, by simp [aggSV]⟩
  | nn h => exact ⟨one (.nn h) rfl rfl, by simp [aggSV]⟩
  | any v => exact absurd rfl hany
theorem tOf_rep (hs : HSat w0 β ro D objs w) {e : EN} {v : SV} {x : T e} {is : List Nat} (h : tOf objs e v = some (x, is)) {u : Value} (hv : RepS β ro v u) :
    (∀ i ∈ is, (objs i).isSome) ∧ ∀ js, (∀ i ∈ is, i ∈ js) → RepT (ro.plus β w js) e x u := by
  unfold tOf at h
  cases ha : aggSV v == isAggE e with
  | false => simp [ha] at h
  | true =>
    simp only [ha] at h
    have hne : v ≠ .any := by
      rintro rfl
      cases hk : kinds e with
      | nil => cases e <;> simp [kinds] at hk; rename_i s; cases s <;> simp [stKinds] at hk
      | cons k ks =>
        have : leafOf objs k .any = none := by cases k <;> rfl
        simp [SV.cells, hk, leavesOf, this] at h
    obtain ⟨hc, hag⟩ := cells_rep hv hne
    cases hl : leavesOf objs (kinds e) v.cells with
    | none => simp [hl] at h
    | some p =>
      obtain ⟨ls, is'⟩ := p
      simp only [hl] at h
      cases hx : ofCells e ls with
      | none => simp [hx] at h
      | some y =>
        simp only [hx] at h
        cases h
        obtain ⟨a1, a2⟩ := leavesOf_rep hs hl hc
        refine ⟨a1, fun js hj => ⟨?_, ?_⟩⟩
        · rw [ofCells_cells e ls x hx]; exact a2 js hj
        · rw [← eq_of_beq ha]; exact hag
theorem datSV_rep {e : EN} {x : T e} {u : Value} (h : RepT ro e x u) : RepS β ro (datSV e x) u := by
  obtain ⟨hc, ha⟩ := h
  have hL := RepC.toL (β := β) hc
  unfold datSV mkVal
  cases hag : isAggE e with
  | true =>
    obtain ⟨cs, rfl⟩ := ha.1 hag
    simp only
    have := RepS.agg (us := cs.toList) hL.1 hL.2
    simpa [Value.cells] using this
  | false =>
    have hn : ¬ ∃ cs, u = .agg cs := fun hh => by rw [ha.2 hh] at hag; cases hag
    have hu : u.cells.toList = [u] := by cases u <;> first | rfl | exact absurd ⟨_, rfl⟩ hn
    rw [hu] at hL
    cases hm : (cells e x).map SV.leaf with
    | nil => rw [hm] at hL; simp [RepL] at hL
    | cons c r =>
      rw [hm] at hL
      cases r with
      | nil => exact hL.2 0 c u rfl rfl
      | cons d r => simp [RepL] at hL
def RepTT (ro : Snap) : (es : List EN) → TT es → List Value → Prop
  | [], _, us => us = []
  | e :: es, x, us => ∃ u us', us = u :: us' ∧ RepT ro e x.1 u ∧ RepTT ro es x.2 us'
theorem RepTT.mono {r r' : Snap} (h : r.ext r') : ∀ {es : List EN} {x : TT es} {us : List Value}, RepTT r es x us → RepTT r' es x us
  | [], _, _, hr => hr
  | _ :: _, _, _, ⟨u, us', hu, hx, ht⟩ => ⟨u, us', hu, hx.mono h, RepTT.mono h ht⟩
def ttOf (H : Heap) : (es : List EN) → List SV → Option (TT es × List Nat)
  | [], [] => some ((), [])
  | e :: es, v :: vs => match tOf H e v, ttOf H es vs with
    | some (x, i), some (xs, is) => some ((x, xs), i ++ is)
    | _, _ => none
  | _, _ => none
theorem toTT_run {A : Type} {H : Heap} : ∀ {es : List EN} {vs : List SV} {f : TT es → List Nat → OT A} {rs : List Nat} {r : A × List Nat},
    (toTT es vs f).run H rs = some r → ∃ x is rs', ttOf H es vs = some (x, is) ∧ (f x is).run H rs' = some r
  | [], [], _, _, _, h => ⟨(), [], _, rfl, h⟩
  | e :: es, v :: vs, f, rs, r, h => by
    simp only [toTT] at h
    obtain ⟨x, i, rs', h1, h2⟩ := toT_run h
    obtain ⟨xs, is, rs'', h3, h4⟩ := toTT_run (es := es) h2
    exact ⟨(x, xs), i ++ is, rs'', by simp [ttOf, h1, h3], h4⟩
  | [], _ :: _, _, _, _, h => by simp [toTT, OT.run] at h
  | _ :: _, [], _, _, _, h => by simp [toTT, OT.run] at h
theorem ttOf_rep (hs : HSat w0 β ro D objs w) : ∀ {es : List EN} {vs : List SV} {x : TT es} {is : List Nat} {us : List Value},
    ttOf objs es vs = some (x, is) → RepL β ro vs us → (∀ i ∈ is, (objs i).isSome) ∧ ∀ js, (∀ i ∈ is, i ∈ js) → RepTT (ro.plus β w js) es x us
  | [], [], _, is, us, h, hr => by cases h; exact ⟨by simp, fun _ _ => hr.of_nil⟩
  | e :: es, v :: vs, x, is, us, h, hr => by
    obtain ⟨u, us', rfl, h1, h2⟩ := hr.of_cons
    simp only [ttOf] at h
    cases hl : tOf objs e v with
    | none => simp [hl] at h
    | some p =>
      obtain ⟨y, i⟩ := p
      cases hq : ttOf objs es vs with
      | none => simp [hl, hq] at h
      | some q =>
        obtain ⟨ys, is'⟩ := q
        simp only [hl, hq] at h
        cases h
        obtain ⟨a1, a2⟩ := tOf_rep hs hl h1
        obtain ⟨b1, b2⟩ := ttOf_rep hs hq h2
        exact ⟨fun x hx => (List.mem_append.1 hx).elim (a1 x) (b1 x), fun js hj => ⟨u, us', rfl, a2 js fun x hx => hj x (List.mem_append_left _ hx), b2 js fun x hx => hj x (List.mem_append_right _ hx)⟩⟩
  | [], _ :: _, _, _, _, h, _ => by simp [ttOf] at h
  | _ :: _, [], _, _, _, h, _ => by simp [ttOf] at h
def elemsOf (H : Heap) (e : EN) : List SV → Option (List (T e) × List Nat)
  | [] => some ([], [])
  | v :: vs => match tOf H e v, elemsOf H e vs with
    | some (x, i), some (xs, is) => some (x :: xs, i ++ is)
    | _, _ => none
theorem toElems_run {A : Type} {H : Heap} {e : EN} : ∀ {vs : List SV} {f : List (T e) → List Nat → OT A} {rs : List Nat} {r : A × List Nat},
    (toElems e vs f).run H rs = some r → ∃ xs is rs', elemsOf H e vs = some (xs, is) ∧ (f xs is).run H rs' = some r
  | [], _, _, _, h => ⟨[], [], _, rfl, h⟩
  | v :: vs, f, rs, r, h => by
    simp only [toElems] at h
    obtain ⟨x, i, rs', h1, h2⟩ := toT_run h
    obtain ⟨xs, is, rs'', h3, h4⟩ := toElems_run h2
    exact ⟨x :: xs, i ++ is, rs'', by simp [elemsOf, h1, h3], h4⟩
theorem elemsOf_rep (hs : HSat w0 β ro D objs w) {e : EN} : ∀ {vs : List SV} {xs : List (T e)} {is : List Nat} {us : List Value},
    elemsOf objs e vs = some (xs, is) → RepL β ro vs us → (∀ i ∈ is, (objs i).isSome) ∧ xs.length = vs.length ∧
      ∀ js, (∀ i ∈ is, i ∈ js) → ∀ (i : Nat) (x : T e) (u : Value), xs[i]? = some x → us[i]? = some u → RepT (ro.plus β w js) e x u
  | [], _, is, us, h, hr => by cases h; exact ⟨by simp, rfl, by simp⟩
  | v :: vs, xs, is, us, h, hr => by
    obtain ⟨u, us', rfl, h1, h2⟩ := hr.of_cons
    simp only [elemsOf] at h
    cases hl : tOf objs e v with
    | none => simp [hl] at h
    | some p =>
      obtain ⟨y, i⟩ := p
      cases hq : elemsOf objs e vs with
      | none => simp [hl, hq] at h
      | some q =>
        obtain ⟨ys, is'⟩ := q
        simp only [hl, hq] at h
        cases h
        obtain ⟨a1, a2⟩ := tOf_rep hs hl h1
        obtain ⟨b1, b2, b3⟩ := elemsOf_rep hs hq h2
        refine ⟨fun x hx => (List.mem_append.1 hx).elim (a1 x) (b1 x), by simp [b2], fun js hj n x z hx hz => ?_⟩
        cases n with
        | zero => simp at hx hz; subst hx hz; exact a2 js fun x hx => hj x (List.mem_append_left _ hx)
        | succ n => exact b3 js (fun x hx => hj x (List.mem_append_right _ hx)) n x z (by simpa using hx) (by simpa using hz)
end Go.Cat

namespace Go.Cat
open Go
variable {P : Program} {w0 : Pt} {β : Pl} {ro : Snap} {D : Nat → Prop} {objs : Heap} {w : World}
theorem HSat.ro_none (h : HSat w0 β ro D objs w) {g : Nat} (hg : w.heap.size ≤ g) : ro g = none := by
  cases hr : ro g with
  | none => rfl
  | some o =>
    have := h.snap g o hr
    rw [Array.getElem?_eq_none hg] at this
    cases this
theorem HSat.upd (h : HSat w0 β ro D objs w) (n : Nat) (hd : Hd) (o : SO) {w' : World} (blk : Option Nat) {D' : Nat → Prop}
    {objs' : Heap} (hobjs : ∀ id x, objs' id = some x → (id = n ∧ x = o) ∨ (id ≠ n ∧ objs id = some x))
    {β' : Pl} (hβ : β.ext β') (hn : β' n = some hd) (hβ' : ∀ id hh, β' id = some hh → β id = some hh ∨ (id = n ∧ hh = hd))
    (hb : Base w w') (hsame : ∀ k, k < w.heap.size → some k ≠ blk → w'.heap[k]? = w.heap[k]?)
    (hro : ∀ g, blk = some g → ro g = none ∧ w0.heap.size ≤ g)
    (hfree : ∀ g id x hh, (blk = some g ∨ hd.blk = some g) → id ≠ n → objs' id = some x → β id = some hh → hh.blk ≠ some g)
    (hat : ObjAt β' ro w' hd o) (hro' : ∀ g, hd.blk = some g → ro g = none ∧ g < w'.heap.size ∧ w0.heap.size ≤ g)
    (hD : ∀ id, D id → D' id) (hDn : D' n) : HSat w0 β' ro D' objs' w' := by
  have hsize := hb.size
  refine ⟨h.base.trans hb, h.low, fun k hk => ?_, ?_, ?_, ?_, ?_, ?_, ?_, ?_⟩
  · rw [hsame k (Nat.lt_of_lt_of_le hk h.base.size) (fun e => by have := (hro k e.symm).2; omega)]
    exact h.old k hk
  · intro b x hx
    have h1 := h.snap b x hx
    have hlt : b < w.heap.size := (Array.getElem?_eq_some_iff.1 h1).1
    rw [hsame b hlt (fun e => by rw [(hro b e.symm).1] at hx; cases hx)]
    exact h1
  · intro id hh hbd
    rcases hβ' id hh hbd with h1 | ⟨rfl, _⟩
    · exact hD _ (h.dom _ _ h1)
    · exact hDn
  · intro id hh g hbd hg
    rcases hβ' id hh hbd with h1 | ⟨_, rfl⟩
    · exact Nat.lt_of_lt_of_le (h.lt _ _ _ h1 hg) hsize
    · exact (hro' g hg).2.1
  · intro id x hx
    rcases hobjs id x hx with ⟨rfl, rfl⟩ | ⟨hne, hx'⟩
    · exact ⟨hd, hn, hat⟩
    · obtain ⟨hh, h1, h2⟩ := h.obj id x hx'
      refine ⟨hh, hβ _ _ h1, h2.mono hβ ro.ext_refl fun g hg => hsame g (h.lt _ _ _ h1 hg) fun e => ?_⟩
      exact hfree g id x hh (.inl e.symm) hne hx h1 hg
  · intro id x hh g hx hbd hg
    rcases hobjs id x hx with ⟨rfl, rfl⟩ | ⟨hne, hx'⟩
    · rw [hn] at hbd; cases hbd; exact (hro' g hg).1
    · rcases hβ' id hh hbd with h1 | ⟨he, _⟩
      · exact h.apart id x hh g hx' h1 hg
      · exact absurd he hne
  · intro id x hh g hx hbd hg
    rcases hobjs id x hx with ⟨rfl, rfl⟩ | ⟨hne, hx'⟩
    · rw [hn] at hbd; cases hbd; exact (hro' g hg).2.2
    · rcases hβ' id hh hbd with h1 | ⟨he, _⟩
      · exact h.above id x hh g hx' h1 hg
      · exact absurd he hne
  · intro id id' x x' hh hh' g hx hx' hbd hbd' hg hg'
    rcases hobjs id x hx with ⟨rfl, rfl⟩ | ⟨hne, hy⟩
    · rw [hn] at hbd; cases hbd
      rcases hobjs id' x' hx' with ⟨rfl, _⟩ | ⟨hne', hy'⟩
      · rfl
      · rcases hβ' id' hh' hbd' with h1 | ⟨he, _⟩
        · exact absurd hg' (hfree g id' x' hh' (.inr hg) hne' hx' h1)
        · exact absurd he hne'
    · rcases hβ' id hh hbd with h1 | ⟨he, _⟩
      · rcases hobjs id' x' hx' with ⟨rfl, _⟩ | ⟨hne', hy'⟩
        · rw [hn] at hbd'; cases hbd'
          exact absurd hg (hfree g id x hh (.inr hg') hne hx h1)
        · rcases hβ' id' hh' hbd' with h2 | ⟨he, _⟩
          · exact h.inj id id' x x' hh hh' g hy hy' h1 h2 hg hg'
          · exact absurd he hne'
      · exact absurd he hne
def Pl.add (β : Pl) (n : Nat) (h : Hd) : Pl := fun i => if i = n then some h else β i
theorem Pl.ext_add {β : Pl} {n : Nat} (hn : β n = none) (h : Hd) : β.ext (β.add n h) := by
  intro id hh hb
  unfold Pl.add
  split
  · rename_i he; subst he; rw [hn] at hb; cases hb
  · exact hb
theorem Pl.add_same (β : Pl) (n : Nat) (h : Hd) : β.add n h n = some h := by simp [Pl.add]
theorem Pl.add_or {β : Pl} {n : Nat} {h : Hd} {id : Nat} {hh : Hd} (hb : β.add n h id = some hh) : β id = some hh ∨ (id = n ∧ hh = h) := by
  unfold Pl.add at hb
  split at hb
  · rename_i he; cases hb; exact .inr ⟨he, rfl⟩
  · exact .inl hb
theorem HSat.none_of_D (h : HSat w0 β ro D objs w) {n : Nat} (hn : ¬ D n) : β n = none := by
  cases hb : β n with
  | none => rfl
  | some hh => exact absurd (h.dom _ _ hb) hn
theorem base_alloc (w : World) (o : Obj) : Base w (w.alloc o) := ⟨rfl, rfl, rfl, by simp⟩
theorem base_setRow (w : World) (g : Nat) (cs : Array Value) : Base w (w.setRow g cs) := ⟨rfl, rfl, rfl, by simp⟩
theorem HSat.fresh (h : HSat w0 β ro D objs w) {n : Nat} (hn : ¬ D n) (hd : Hd) (o : SO) {w' : World} {D' : Nat → Prop} (hb : Base w w')
    (hsame : ∀ k, k < w.heap.size → w'.heap[k]? = w.heap[k]?) (hblk : ∀ g, hd.blk = some g → w.heap.size ≤ g ∧ g < w'.heap.size)
    (hat : ObjAt (β.add n hd) ro w' hd o) (hD : ∀ id, D id → D' id) (hDn : D' n) : HSat w0 (β.add n hd) ro D' (putH objs n (some o)) w' := by
  refine h.upd n hd o none ?_ (Pl.ext_add (h.none_of_D hn) hd) (Pl.add_same _ _ _) (fun id hh hb => Pl.add_or hb) hb (fun k hk _ => hsame k hk) (by simp) ?_ hat
    (fun g hg => ⟨h.ro_none (hblk g hg).1, (hblk g hg).2, Nat.le_trans h.base.size (hblk g hg).1⟩) hD hDn
  · intro id x hx
    by_cases he : id = n
    · subst he; rw [putH_same] at hx; cases hx; exact .inl ⟨rfl, rfl⟩
    · rw [putH_other _ _ he] at hx; exact .inr ⟨he, hx⟩
  · intro g id x hh hor _ _ hb' hg
    rcases hor with h1 | h1
    · cases h1
    · have := h.lt _ _ _ hb' hg
      have := (hblk g h1).1
      omega
theorem HSat.turn (h : HSat w0 β ro D objs w) {n : Nat} {hd : Hd} {o o' : SO} (ho : objs n = some o) (hbn : β n = some hd) {w' : World} {g : Nat} (hg : hd.blk = some g)
    (hb : Base w w') (hsame : ∀ k, k < w.heap.size → k ≠ g → w'.heap[k]? = w.heap[k]?) (hat : ObjAt β ro w' hd o') {D' : Nat → Prop} (hD : ∀ id, D id → D' id) :
    HSat w0 β ro D' (putH objs n (some o')) w' := by
  have hgr := h.apart n o hd g ho hbn hg
  have hab := h.above n o hd g ho hbn hg
  refine h.upd n hd o' (some g) ?_ β.ext_refl hbn (fun id hh hb => .inl hb) hb (fun k hk hne => hsame k hk (fun e => hne (by rw [e]))) ?_ ?_ hat ?_ hD (hD _ (h.dom _ _ hbn))
  · intro id x hx
    by_cases he : id = n
    · subst he; rw [putH_same] at hx; cases hx; exact .inl ⟨rfl, rfl⟩
    · rw [putH_other _ _ he] at hx; exact .inr ⟨he, hx⟩
  · intro g' hg'; cases hg'; exact ⟨hgr, hab⟩
  · intro g' id x hh hor hne hx hb' hg'
    have hge : g' = g := by
      rcases hor with h1 | h1
      · exact (Option.some.inj h1).symm
      · rw [hg] at h1; exact (Option.some.inj h1).symm
    subst hge
    rw [putH_other _ _ hne] at hx
    exact hne (h.inj id n x o hh hd g' hx ho hb' hbn hg' hg)
  · intro g' hg'
    rw [hg] at hg'; cases hg'
    exact ⟨hgr, Nat.lt_of_lt_of_le (h.lt _ _ _ hbn hg) hb.size, hab⟩
def isAggD : TypeDesc → Bool
  | .struct _ | .array _ _ => true
  | _ => false
structure TyOk (P : Program) (t : TypeId) (i : TyI) : Prop where
  info : ∃ inf z d, P.info? t = some inf ∧ P.underlying t = some d ∧ inf.size = i.size ∧ inf.zero = some z ∧ z.cells.size = i.size ∧ z.cells.toList.map SV.lit = i.zero ∧
    (∀ v ∈ z.cells.toList, litOk v = true) ∧ inf.bytes ≤ 131072 ∧ isAggD d = i.agg ∧ ((i.agg = false → i.size = 1) ∧ 0 < i.size) ∧
    (match i.d with
      | .st fs => ∃ fields, d = .struct fields ∧ fields.toList.map (fun f => (f.offset, f.type)) = fs ∧ (∀ f ∈ fields.toList, ∃ fi, P.info? f.type = some fi ∧ fi.size ≠ 0) ∧
          (i.eq = true → P.stoodInHeld t = false ∧ P.eqGuardType P.depth t = false ∧ ∀ f ∈ fields.toList, (f.name != "_") = true)
      | .arr n e => d = .array n e
      | .sl e => d = .slice e
      | .int k => d = .int k
      | .str => d = .string
      | .bool => d = .bool
      | _ => True) ∧
    ∀ e, i.en = some e → sz e = i.size ∧ 0 < i.size ∧ isAggE e = i.agg ∧ RepC (fun _ => none) (cells e (zeroT e)) z.cells.toList
theorem look_mem {α : Type} : ∀ {l : List (Nat × α)} {n : Nat} {a : α}, look l n = some a → (n, a) ∈ l
  | [], _, _, h => by cases h
  | (i, b) :: r, n, a, h => by
    unfold look at h
    cases hb : Nat.beq i n with
    | true => simp only [hb] at h; cases h; rw [Nat.eq_of_beq_eq_true hb]; exact List.mem_cons_self
    | false => simp only [hb] at h; exact List.mem_cons_of_mem _ (look_mem h)
structure TysOk (P : Program) (E : Env) : Prop where
  ty : ∀ t i, (t, i) ∈ E.ty → TyOk P t i
theorem TysOk.look {E : Env} (h : TysOk P E) {t : Nat} {i : TyI} (hl : look E.ty t = some i) : TyOk P t i := h.ty _ _ (look_mem hl)
theorem sizeT_look {E : Env} {t s : Nat} (h : sizeT E t = some s) : ∃ i, look E.ty t = some i ∧ i.size = s := by
  unfold sizeT at h
  cases hl : look E.ty t with
  | none => simp [hl] at h
  | some i => simp [hl] at h; exact ⟨i, rfl, h⟩
end Go.Cat
