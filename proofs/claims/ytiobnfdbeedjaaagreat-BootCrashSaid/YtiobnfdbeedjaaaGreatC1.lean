/-
  CatTy: the program's data types as Lean structures, and how they lie in cells. (printed by gen_ty.py, my own)
  CatSym: a symbolic executor over the model's code: what it does (nothing is proved here). Leaves are Lean terms; the executor never looks into one.
  CatRep: what symbolic values and objects say of a world.
  CatConv: what is taken as data is data: values, cells and rows, and the data that they stand for.
-/
import GoSem.Core.Value
import GoSem.Dispatch
import Derived.Laws.OwnMore
import Derived.Laws.MakeOwn
import Derived.Calls
import Derived.Orders
import Derived.LoopN
import Derived.Below
set_option linter.unusedVariables false
set_option linter.unusedSimpArgs false
namespace Go.Cat

structure Sector where
  bytes : List Int
  bad : Bool
  deriving DecidableEq, Inhabited

structure Pend where
  at_ : Int
  bytes : List Int
  deriving DecidableEq, Inhabited

structure Disk where
  sectors : List Sector
  cache : List Pend
  deriving DecidableEq, Inhabited

structure Super where
  boot : Int
  area : Int
  gen : Int
  deriving DecidableEq, Inhabited

structure Rec where
  pair : Int
  born : Int
  epoch : Int
  lead : Int
  phase : Int
  from_ : Int
  quick : Bool
  alone : Bool
  deriving DecidableEq, Inhabited

structure Meta where
  super : Super
  count : Int
  turn : Int
  table : List Rec
  deriving DecidableEq, Inhabited

structure Msg where
  kind : Int
  pair : Int
  has : Bool
  rec_ : Rec
  op : Int
  born : Int
  epoch : Int
  track : Int
  n : Int
  code : Int
  marks : List Int
  bytes : List Int
  deriving DecidableEq, Inhabited

structure Reply where
  ask : Int
  code : Int
  state : Int
  bytes : List Int
  deriving DecidableEq, Inhabited

structure Act where
  kind : Int
  at_ : Int
  bytes : List Int
  me : Int
  you : Int
  msg : Msg
  reply : Reply
  pair : Int
  deriving DecidableEq, Inhabited

structure Ask where
  id : Int
  kind : Int
  pair : Int
  track : Int
  op : Int
  bytes : List Int
  deriving DecidableEq, Inhabited

structure Mail where
  kind : Int
  me : Int
  you : Int
  msg : Msg
  deriving DecidableEq, Inhabited

structure Sent where
  track : Int
  n : Int
  dirty : Bool
  deriving DecidableEq, Inhabited

structure Wait where
  ask : Int
  track : Int
  n : Int
  read : Bool
  deriving DecidableEq, Inhabited

structure Side where
  marks : List Int
  work : List Int
  out : List Sent
  n : Int
  waits : List Wait
  need : List Int
  first : Int
  next : Int
  op : Int
  ask : Int
  knows : Bool
  over : Bool
  clean : Bool
  again : Bool
  deriving DecidableEq, Inhabited

structure Queue where
  items : List (List Int)
  head : Int
  many : Int
  deriving DecidableEq, Inhabited

structure End where
  me : Int
  you : Int
  up : Bool
  dead : Bool
  sent : Int
  done : Int
  out : Queue
  got : Int
  quiet : Int
  deriving DecidableEq, Inhabited

structure Site where
  id : Int
  disk : Disk
  met : Meta
  sides : List Side
  end_ : End
  plan : List Act
  mail : List Mail
  asks : List Ask
  replies : List Reply
  syncs : List Int
  born : Int
  ready : Bool
  deriving DecidableEq, Inhabited

structure Config where
  pairs : Int
  tracks : Int
  area : Int
  most : Int
  window : Int
  quiet : Int
  deriving DecidableEq, Inhabited

structure Bound where
  a : Int
  b : Int
  c : Int
  deriving DecidableEq, Inhabited

structure Part where
  kind : Int
  owners : Int
  many : Int
  own : Int
  deriving DecidableEq, Inhabited

structure Plain where
  kind : Int
  op : Int
  pair : Int
  track : Int
  has : Bool
  rec_ : Rec
  born : Int
  epoch : Int
  num : Int
  code : Int
  deriving DecidableEq, Inhabited

structure Head where
  me : Int
  you : Int
  sent : Int
  done : Int
  got : Int
  up : Bool
  dead : Bool
  quiet : Int
  deriving DecidableEq, Inhabited

structure Round where
  all : List (List Int)
  from_ : Int
  many : Int
  deriving DecidableEq, Inhabited

structure Step where
  note : List Int
  many : Int
  fates : List Int
  again : Int
  deriving DecidableEq, Inhabited

/-- The names of these types. -/
inductive SN where
  | Sector | Pend | Disk | Super | Rec | Meta | Msg | Reply | Act | Ask | Mail | Sent | Wait | Side | Queue | End | Site | Config | Bound | Part | Plain | Head | Round | Step
  deriving DecidableEq, Repr

/-- Kinds of data. -/
inductive EN where
  | int (k : IntKind) | bool | str | sl (e : EN) | st (s : SN)
  deriving DecidableEq, Repr

abbrev STy : SN → Type
  | .Sector => Sector
  | .Pend => Pend
  | .Disk => Disk
  | .Super => Super
  | .Rec => Rec
  | .Meta => Meta
  | .Msg => Msg
  | .Reply => Reply
  | .Act => Act
  | .Ask => Ask
  | .Mail => Mail
  | .Sent => Sent
  | .Wait => Wait
  | .Side => Side
  | .Queue => Queue
  | .End => End
  | .Site => Site
  | .Config => Config
  | .Bound => Bound
  | .Part => Part
  | .Plain => Plain
  | .Head => Head
  | .Round => Round
  | .Step => Step

abbrev T : EN → Type
  | .int _ => Int
  | .bool => Bool
  | .str => List Int
  | .sl e => List (T e)
  | .st s => STy s

/-- A cell's datum. -/
inductive Leaf where
  | int (k : IntKind) (n : Int) | bool (b : Bool) | str (s : List Int) | sl (e : EN) (xs : List (T e))

/-- A cell's kind. -/
inductive LK where
  | int (k : IntKind) | bool | str | sl (e : EN)
  deriving DecidableEq, Repr

def stCells : (s : SN) → STy s → List Leaf
  | .Sector, x => [.sl (.int .u8) x.bytes, .bool x.bad]
  | .Pend, x => [.int .i64 x.at_, .sl (.int .u8) x.bytes]
  | .Disk, x => [.sl (.st .Sector) x.sectors, .sl (.st .Pend) x.cache]
  | .Super, x => [.int .u32 x.boot, .int .i64 x.area, .int .u64 x.gen]
  | .Rec, x => [.int .i64 x.pair, .int .u32 x.born, .int .u32 x.epoch, .int .i64 x.lead, .int .u8 x.phase, .int .i64 x.from_, .bool x.quick, .bool x.alone]
  | .Meta, x => [.int .u32 x.super.boot, .int .i64 x.super.area, .int .u64 x.super.gen, .int .i64 x.count, .int .i64 x.turn, .sl (.st .Rec) x.table]
  | .Msg, x => [.int .u8 x.kind, .int .i64 x.pair, .bool x.has, .int .i64 x.rec_.pair, .int .u32 x.rec_.born, .int .u32 x.rec_.epoch, .int .i64 x.rec_.lead, .int .u8 x.rec_.phase, .int .i64 x.rec_.from_, .bool x.rec_.quick, .bool x.rec_.alone, .int .u8 x.op, .int .u32 x.born, .int .u32 x.epoch, .int .i64 x.track, .int .u32 x.n, .int .i64 x.code, .sl (.int .u8) x.marks, .sl (.int .u8) x.bytes]
  | .Reply, x => [.int .i64 x.ask, .int .i64 x.code, .int .u8 x.state, .sl (.int .u8) x.bytes]
  | .Act, x => [.int .u8 x.kind, .int .i64 x.at_, .sl (.int .u8) x.bytes, .int .u32 x.me, .int .u32 x.you, .int .u8 x.msg.kind, .int .i64 x.msg.pair, .bool x.msg.has, .int .i64 x.msg.rec_.pair, .int .u32 x.msg.rec_.born, .int .u32 x.msg.rec_.epoch, .int .i64 x.msg.rec_.lead, .int .u8 x.msg.rec_.phase, .int .i64 x.msg.rec_.from_, .bool x.msg.rec_.quick, .bool x.msg.rec_.alone, .int .u8 x.msg.op, .int .u32 x.msg.born, .int .u32 x.msg.epoch, .int .i64 x.msg.track, .int .u32 x.msg.n, .int .i64 x.msg.code, .sl (.int .u8) x.msg.marks, .sl (.int .u8) x.msg.bytes, .int .i64 x.reply.ask, .int .i64 x.reply.code, .int .u8 x.reply.state, .sl (.int .u8) x.reply.bytes, .int .i64 x.pair]
  | .Ask, x => [.int .i64 x.id, .int .u8 x.kind, .int .i64 x.pair, .int .i64 x.track, .int .u8 x.op, .sl (.int .u8) x.bytes]
  | .Mail, x => [.int .u8 x.kind, .int .u32 x.me, .int .u32 x.you, .int .u8 x.msg.kind, .int .i64 x.msg.pair, .bool x.msg.has, .int .i64 x.msg.rec_.pair, .int .u32 x.msg.rec_.born, .int .u32 x.msg.rec_.epoch, .int .i64 x.msg.rec_.lead, .int .u8 x.msg.rec_.phase, .int .i64 x.msg.rec_.from_, .bool x.msg.rec_.quick, .bool x.msg.rec_.alone, .int .u8 x.msg.op, .int .u32 x.msg.born, .int .u32 x.msg.epoch, .int .i64 x.msg.track, .int .u32 x.msg.n, .int .i64 x.msg.code, .sl (.int .u8) x.msg.marks, .sl (.int .u8) x.msg.bytes]
  | .Sent, x => [.int .i64 x.track, .int .u32 x.n, .bool x.dirty]
  | .Wait, x => [.int .i64 x.ask, .int .i64 x.track, .int .u32 x.n, .bool x.read]
  | .Side, x => [.sl (.int .u8) x.marks, .sl (.int .u8) x.work, .sl (.st .Sent) x.out, .int .u32 x.n, .sl (.st .Wait) x.waits, .sl (.int .u8) x.need, .int .i64 x.first, .int .i64 x.next, .int .u8 x.op, .int .i64 x.ask, .bool x.knows, .bool x.over, .bool x.clean, .bool x.again]
  | .Queue, x => [.sl (.sl (.int .u8)) x.items, .int .i64 x.head, .int .i64 x.many]
  | .End, x => [.int .u32 x.me, .int .u32 x.you, .bool x.up, .bool x.dead, .int .u32 x.sent, .int .u32 x.done, .sl (.sl (.int .u8)) x.out.items, .int .i64 x.out.head, .int .i64 x.out.many, .int .u32 x.got, .int .i64 x.quiet]
  | .Site, x => [.int .i64 x.id, .sl (.st .Sector) x.disk.sectors, .sl (.st .Pend) x.disk.cache, .int .u32 x.met.super.boot, .int .i64 x.met.super.area, .int .u64 x.met.super.gen, .int .i64 x.met.count, .int .i64 x.met.turn, .sl (.st .Rec) x.met.table, .sl (.st .Side) x.sides, .int .u32 x.end_.me, .int .u32 x.end_.you, .bool x.end_.up, .bool x.end_.dead, .int .u32 x.end_.sent, .int .u32 x.end_.done, .sl (.sl (.int .u8)) x.end_.out.items, .int .i64 x.end_.out.head, .int .i64 x.end_.out.many, .int .u32 x.end_.got, .int .i64 x.end_.quiet, .sl (.st .Act) x.plan, .sl (.st .Mail) x.mail, .sl (.st .Ask) x.asks, .sl (.st .Reply) x.replies, .sl (.int .i64) x.syncs, .int .u32 x.born, .bool x.ready]
  | .Config, x => [.int .i64 x.pairs, .int .i64 x.tracks, .int .i64 x.area, .int .i64 x.most, .int .i64 x.window, .int .i64 x.quiet]
  | .Bound, x => [.int .i64 x.a, .int .i64 x.b, .int .i64 x.c]
  | .Part, x => [.int .u8 x.kind, .int .i64 x.owners, .int .i64 x.many, .int .i64 x.own]
  | .Plain, x => [.int .u8 x.kind, .int .u8 x.op, .int .i64 x.pair, .int .i64 x.track, .bool x.has, .int .i64 x.rec_.pair, .int .u32 x.rec_.born, .int .u32 x.rec_.epoch, .int .i64 x.rec_.lead, .int .u8 x.rec_.phase, .int .i64 x.rec_.from_, .bool x.rec_.quick, .bool x.rec_.alone, .int .u32 x.born, .int .u32 x.epoch, .int .u32 x.num, .int .i64 x.code]
  | .Head, x => [.int .u32 x.me, .int .u32 x.you, .int .u32 x.sent, .int .u32 x.done, .int .u32 x.got, .bool x.up, .bool x.dead, .int .i64 x.quiet]
  | .Round, x => [.sl (.sl (.int .u8)) x.all, .int .i64 x.from_, .int .i64 x.many]
  | .Step, x => [.sl (.int .u8) x.note, .int .i64 x.many, .sl (.int .u8) x.fates, .int .i64 x.again]

def stKinds : SN → List LK
  | .Sector => [.sl (.int .u8), .bool]
  | .Pend => [.int .i64, .sl (.int .u8)]
  | .Disk => [.sl (.st .Sector), .sl (.st .Pend)]
  | .Super => [.int .u32, .int .i64, .int .u64]
  | .Rec => [.int .i64, .int .u32, .int .u32, .int .i64, .int .u8, .int .i64, .bool, .bool]
  | .Meta => [.int .u32, .int .i64, .int .u64, .int .i64, .int .i64, .sl (.st .Rec)]
  | .Msg => [.int .u8, .int .i64, .bool, .int .i64, .int .u32, .int .u32, .int .i64, .int .u8, .int .i64, .bool, .bool, .int .u8, .int .u32, .int .u32, .int .i64, .int .u32, .int .i64, .sl (.int .u8), .sl (.int .u8)]
  | .Reply => [.int .i64, .int .i64, .int .u8, .sl (.int .u8)]
  | .Act => [.int .u8, .int .i64, .sl (.int .u8), .int .u32, .int .u32, .int .u8, .int .i64, .bool, .int .i64, .int .u32, .int .u32, .int .i64, .int .u8, .int .i64, .bool, .bool, .int .u8, .int .u32, .int .u32, .int .i64, .int .u32, .int .i64, .sl (.int .u8), .sl (.int .u8), .int .i64, .int .i64, .int .u8, .sl (.int .u8), .int .i64]
  | .Ask => [.int .i64, .int .u8, .int .i64, .int .i64, .int .u8, .sl (.int .u8)]
  | .Mail => [.int .u8, .int .u32, .int .u32, .int .u8, .int .i64, .bool, .int .i64, .int .u32, .int .u32, .int .i64, .int .u8, .int .i64, .bool, .bool, .int .u8, .int .u32, .int .u32, .int .i64, .int .u32, .int .i64, .sl (.int .u8), .sl (.int .u8)]
  | .Sent => [.int .i64, .int .u32, .bool]
  | .Wait => [.int .i64, .int .i64, .int .u32, .bool]
  | .Side => [.sl (.int .u8), .sl (.int .u8), .sl (.st .Sent), .int .u32, .sl (.st .Wait), .sl (.int .u8), .int .i64, .int .i64, .int .u8, .int .i64, .bool, .bool, .bool, .bool]
  | .Queue => [.sl (.sl (.int .u8)), .int .i64, .int .i64]
  | .End => [.int .u32, .int .u32, .bool, .bool, .int .u32, .int .u32, .sl (.sl (.int .u8)), .int .i64, .int .i64, .int .u32, .int .i64]
  | .Site => [.int .i64, .sl (.st .Sector), .sl (.st .Pend), .int .u32, .int .i64, .int .u64, .int .i64, .int .i64, .sl (.st .Rec), .sl (.st .Side), .int .u32, .int .u32, .bool, .bool, .int .u32, .int .u32, .sl (.sl (.int .u8)), .int .i64, .int .i64, .int .u32, .int .i64, .sl (.st .Act), .sl (.st .Mail), .sl (.st .Ask), .sl (.st .Reply), .sl (.int .i64), .int .u32, .bool]
  | .Config => [.int .i64, .int .i64, .int .i64, .int .i64, .int .i64, .int .i64]
  | .Bound => [.int .i64, .int .i64, .int .i64]
  | .Part => [.int .u8, .int .i64, .int .i64, .int .i64]
  | .Plain => [.int .u8, .int .u8, .int .i64, .int .i64, .bool, .int .i64, .int .u32, .int .u32, .int .i64, .int .u8, .int .i64, .bool, .bool, .int .u32, .int .u32, .int .u32, .int .i64]
  | .Head => [.int .u32, .int .u32, .int .u32, .int .u32, .int .u32, .bool, .bool, .int .i64]
  | .Round => [.sl (.sl (.int .u8)), .int .i64, .int .i64]
  | .Step => [.sl (.int .u8), .int .i64, .sl (.int .u8), .int .i64]

def stOf : (s : SN) → List Leaf → Option (STy s)
  | .Sector, l => match l with
    | [.sl (.int .u8) a0, .bool a1] => some ⟨a0, a1⟩
    | _ => none
  | .Pend, l => match l with
    | [.int .i64 a0, .sl (.int .u8) a1] => some ⟨a0, a1⟩
    | _ => none
  | .Disk, l => match l with
    | [.sl (.st .Sector) a0, .sl (.st .Pend) a1] => some ⟨a0, a1⟩
    | _ => none
  | .Super, l => match l with
    | [.int .u32 a0, .int .i64 a1, .int .u64 a2] => some ⟨a0, a1, a2⟩
    | _ => none
  | .Rec, l => match l with
    | [.int .i64 a0, .int .u32 a1, .int .u32 a2, .int .i64 a3, .int .u8 a4, .int .i64 a5, .bool a6, .bool a7] => some ⟨a0, a1, a2, a3, a4, a5, a6, a7⟩
    | _ => none
  | .Meta, l => match l with
    | [.int .u32 a0, .int .i64 a1, .int .u64 a2, .int .i64 a3, .int .i64 a4, .sl (.st .Rec) a5] => some ⟨⟨a0, a1, a2⟩, a3, a4, a5⟩
    | _ => none
  | .Msg, l => match l with
    | [.int .u8 a0, .int .i64 a1, .bool a2, .int .i64 a3, .int .u32 a4, .int .u32 a5, .int .i64 a6, .int .u8 a7, .int .i64 a8, .bool a9, .bool a10, .int .u8 a11, .int .u32 a12, .int .u32 a13, .int .i64 a14, .int .u32 a15, .int .i64 a16, .sl (.int .u8) a17, .sl (.int .u8) a18] => some ⟨a0, a1, a2, ⟨a3, a4, a5, a6, a7, a8, a9, a10⟩, a11, a12, a13, a14, a15, a16, a17, a18⟩
    | _ => none
  | .Reply, l => match l with
    | [.int .i64 a0, .int .i64 a1, .int .u8 a2, .sl (.int .u8) a3] => some ⟨a0, a1, a2, a3⟩
    | _ => none
  | .Act, l => match l with
    | [.int .u8 a0, .int .i64 a1, .sl (.int .u8) a2, .int .u32 a3, .int .u32 a4, .int .u8 a5, .int .i64 a6, .bool a7, .int .i64 a8, .int .u32 a9, .int .u32 a10, .int .i64 a11, .int .u8 a12, .int .i64 a13, .bool a14, .bool a15, .int .u8 a16, .int .u32 a17, .int .u32 a18, .int .i64 a19, .int .u32 a20, .int .i64 a21, .sl (.int .u8) a22, .sl (.int .u8) a23, .int .i64 a24, .int .i64 a25, .int .u8 a26, .sl (.int .u8) a27, .int .i64 a28] => some ⟨a0, a1, a2, a3, a4, ⟨a5, a6, a7, ⟨a8, a9, a10, a11, a12, a13, a14, a15⟩, a16, a17, a18, a19, a20, a21, a22, a23⟩, ⟨a24, a25, a26, a27⟩, a28⟩
    | _ => none
  | .Ask, l => match l with
    | [.int .i64 a0, .int .u8 a1, .int .i64 a2, .int .i64 a3, .int .u8 a4, .sl (.int .u8) a5] => some ⟨a0, a1, a2, a3, a4, a5⟩
    | _ => none
  | .Mail, l => match l with
    | [.int .u8 a0, .int .u32 a1, .int .u32 a2, .int .u8 a3, .int .i64 a4, .bool a5, .int .i64 a6, .int .u32 a7, .int .u32 a8, .int .i64 a9, .int .u8 a10, .int .i64 a11, .bool a12, .bool a13, .int .u8 a14, .int .u32 a15, .int .u32 a16, .int .i64 a17, .int .u32 a18, .int .i64 a19, .sl (.int .u8) a20, .sl (.int .u8) a21] => some ⟨a0, a1, a2, ⟨a3, a4, a5, ⟨a6, a7, a8, a9, a10, a11, a12, a13⟩, a14, a15, a16, a17, a18, a19, a20, a21⟩⟩
    | _ => none
  | .Sent, l => match l with
    | [.int .i64 a0, .int .u32 a1, .bool a2] => some ⟨a0, a1, a2⟩
    | _ => none
  | .Wait, l => match l with
    | [.int .i64 a0, .int .i64 a1, .int .u32 a2, .bool a3] => some ⟨a0, a1, a2, a3⟩
    | _ => none
  | .Side, l => match l with
    | [.sl (.int .u8) a0, .sl (.int .u8) a1, .sl (.st .Sent) a2, .int .u32 a3, .sl (.st .Wait) a4, .sl (.int .u8) a5, .int .i64 a6, .int .i64 a7, .int .u8 a8, .int .i64 a9, .bool a10, .bool a11, .bool a12, .bool a13] => some ⟨a0, a1, a2, a3, a4, a5, a6, a7, a8, a9, a10, a11, a12, a13⟩
    | _ => none
  | .Queue, l => match l with
    | [.sl (.sl (.int .u8)) a0, .int .i64 a1, .int .i64 a2] => some ⟨a0, a1, a2⟩
    | _ => none
  | .End, l => match l with
    | [.int .u32 a0, .int .u32 a1, .bool a2, .bool a3, .int .u32 a4, .int .u32 a5, .sl (.sl (.int .u8)) a6, .int .i64 a7, .int .i64 a8, .int .u32 a9, .int .i64 a10] => some ⟨a0, a1, a2, a3, a4, a5, ⟨a6, a7, a8⟩, a9, a10⟩
    | _ => none
  | .Site, l => match l with
    | [.int .i64 a0, .sl (.st .Sector) a1, .sl (.st .Pend) a2, .int .u32 a3, .int .i64 a4, .int .u64 a5, .int .i64 a6, .int .i64 a7, .sl (.st .Rec) a8, .sl (.st .Side) a9, .int .u32 a10, .int .u32 a11, .bool a12, .bool a13, .int .u32 a14, .int .u32 a15, .sl (.sl (.int .u8)) a16, .int .i64 a17, .int .i64 a18, .int .u32 a19, .int .i64 a20, .sl (.st .Act) a21, .sl (.st .Mail) a22, .sl (.st .Ask) a23, .sl (.st .Reply) a24, .sl (.int .i64) a25, .int .u32 a26, .bool a27] => some ⟨a0, ⟨a1, a2⟩, ⟨⟨a3, a4, a5⟩, a6, a7, a8⟩, a9, ⟨a10, a11, a12, a13, a14, a15, ⟨a16, a17, a18⟩, a19, a20⟩, a21, a22, a23, a24, a25, a26, a27⟩
    | _ => none
  | .Config, l => match l with
    | [.int .i64 a0, .int .i64 a1, .int .i64 a2, .int .i64 a3, .int .i64 a4, .int .i64 a5] => some ⟨a0, a1, a2, a3, a4, a5⟩
    | _ => none
  | .Bound, l => match l with
    | [.int .i64 a0, .int .i64 a1, .int .i64 a2] => some ⟨a0, a1, a2⟩
    | _ => none
  | .Part, l => match l with
    | [.int .u8 a0, .int .i64 a1, .int .i64 a2, .int .i64 a3] => some ⟨a0, a1, a2, a3⟩
    | _ => none
  | .Plain, l => match l with
    | [.int .u8 a0, .int .u8 a1, .int .i64 a2, .int .i64 a3, .bool a4, .int .i64 a5, .int .u32 a6, .int .u32 a7, .int .i64 a8, .int .u8 a9, .int .i64 a10, .bool a11, .bool a12, .int .u32 a13, .int .u32 a14, .int .u32 a15, .int .i64 a16] => some ⟨a0, a1, a2, a3, a4, ⟨a5, a6, a7, a8, a9, a10, a11, a12⟩, a13, a14, a15, a16⟩
    | _ => none
  | .Head, l => match l with
    | [.int .u32 a0, .int .u32 a1, .int .u32 a2, .int .u32 a3, .int .u32 a4, .bool a5, .bool a6, .int .i64 a7] => some ⟨a0, a1, a2, a3, a4, a5, a6, a7⟩
    | _ => none
  | .Round, l => match l with
    | [.sl (.sl (.int .u8)) a0, .int .i64 a1, .int .i64 a2] => some ⟨a0, a1, a2⟩
    | _ => none
  | .Step, l => match l with
    | [.sl (.int .u8) a0, .int .i64 a1, .sl (.int .u8) a2, .int .i64 a3] => some ⟨a0, a1, a2, a3⟩
    | _ => none

def stZero : (s : SN) → STy s
  | .Sector => ⟨[], false⟩
  | .Pend => ⟨0, []⟩
  | .Disk => ⟨[], []⟩
  | .Super => ⟨0, 0, 0⟩
  | .Rec => ⟨0, 0, 0, 0, 0, 0, false, false⟩
  | .Meta => ⟨⟨0, 0, 0⟩, 0, 0, []⟩
  | .Msg => ⟨0, 0, false, ⟨0, 0, 0, 0, 0, 0, false, false⟩, 0, 0, 0, 0, 0, 0, [], []⟩
  | .Reply => ⟨0, 0, 0, []⟩
  | .Act => ⟨0, 0, [], 0, 0, ⟨0, 0, false, ⟨0, 0, 0, 0, 0, 0, false, false⟩, 0, 0, 0, 0, 0, 0, [], []⟩, ⟨0, 0, 0, []⟩, 0⟩
  | .Ask => ⟨0, 0, 0, 0, 0, []⟩
  | .Mail => ⟨0, 0, 0, ⟨0, 0, false, ⟨0, 0, 0, 0, 0, 0, false, false⟩, 0, 0, 0, 0, 0, 0, [], []⟩⟩
  | .Sent => ⟨0, 0, false⟩
  | .Wait => ⟨0, 0, 0, false⟩
  | .Side => ⟨[], [], [], 0, [], [], 0, 0, 0, 0, false, false, false, false⟩
  | .Queue => ⟨[], 0, 0⟩
  | .End => ⟨0, 0, false, false, 0, 0, ⟨[], 0, 0⟩, 0, 0⟩
  | .Site => ⟨0, ⟨[], []⟩, ⟨⟨0, 0, 0⟩, 0, 0, []⟩, [], ⟨0, 0, false, false, 0, 0, ⟨[], 0, 0⟩, 0, 0⟩, [], [], [], [], [], 0, false⟩
  | .Config => ⟨0, 0, 0, 0, 0, 0⟩
  | .Bound => ⟨0, 0, 0⟩
  | .Part => ⟨0, 0, 0, 0⟩
  | .Plain => ⟨0, 0, 0, 0, false, ⟨0, 0, 0, 0, 0, 0, false, false⟩, 0, 0, 0, 0⟩
  | .Head => ⟨0, 0, 0, 0, 0, false, false, 0⟩
  | .Round => ⟨[], 0, 0⟩
  | .Step => ⟨[], 0, [], 0⟩

end Go.Cat

namespace Go.Cat

/- ---------------------------------------------------------------- data and cells -/

def cells : (e : EN) → T e → List Leaf
  | .int k, n => [.int k n]
  | .bool, b => [.bool b]
  | .str, s => [.str s]
  | .sl e, xs => [.sl e xs]
  | .st s, x => stCells s x

def kinds : EN → List LK
  | .int k => [.int k]
  | .bool => [.bool]
  | .str => [.str]
  | .sl e => [.sl e]
  | .st s => stKinds s

def castT {e e' : EN} (h : e' = e) (xs : List (T e')) : List (T e) := h ▸ xs

def ofCells : (e : EN) → List Leaf → Option (T e)
  | .int k, l => match l with | [.int k' n] => if k' = k then some n else none | _ => none
  | .bool, l => match l with | [.bool b] => some b | _ => none
  | .str, l => match l with | [.str s] => some s | _ => none
  | .sl e, l => match l with | [.sl e' xs] => if h : e' = e then some (castT h xs) else none | _ => none
  | .st s, l => stOf s l

def zeroT : (e : EN) → T e
  | .int _ => (0 : Int)
  | .bool => false
  | .str => []
  | .sl _ => []
  | .st s => stZero s

/-- Element number i. -/
def rd {e : EN} (xs : List (T e)) (i : Nat) : T e := (xs[i]?).getD (zeroT e)

/-- How many cells an element has. -/
def sz (e : EN) : Nat := (kinds e).length

/- ---------------------------------------------------------------- symbolic values, objects, states -/

inductive SV where
  | leaf (l : Leaf)
  | lit (v : Value)
  | own (id : Nat)
  | win (id lo len : Nat)
  | rptr (ls : List Leaf)
  | optr (id idx off : Nat)
  | bptr (id off : Nat)
  | fn (f : Nat) (first captured : List SV)
  | iface (t : TypeId) (v : SV)
  | agg (cs : List SV)
  | tup (vs : List SV)
  | nn (e : EN) (xs : List (T e))
  | any

/-- An object: a row of elements (its elements' type, and kind), or cells. -/
inductive SO where
  | row (et : Nat) (e : EN) (xs : List (T e))
  | blk (cs : List SV)

abbrev Heap := Nat → Option SO

structure Mem where
  objs : Heap
  next : Nat
  wl : List Nat

structure St where
  tmps : List SV
  m : Mem

def putH (h : Heap) (id : Nat) (o : Option SO) : Heap := fun i => match Nat.beq i id with | true => o | false => h i

def putAll (h : Heap) : List (Nat × Option SO) → Heap
  | [] => h
  | (i, o) :: r => putAll (putH h i o) r

/- ---------------------------------------------------------------- what is told of the program's types -/

inductive TyD where
  | sc | bool | str | st (fields : List (Nat × Nat)) | arr (n elem : Nat) | sl (elem : Nat) | int (k : IntKind) | other
  deriving Inhabited

structure TyI where
  d : TyD
  size : Nat
  zero : List SV
  en : Option EN
  eq : Bool := false    -- may '==' be asked of it, field by field?
  deriving Inhabited

def TT : List EN → Type
  | [] => Unit
  | e :: es => T e × TT es

/-- A contract: parameters, results, what it computes; whether the results' slices are new memory of the caller's own, and then their elements' types. -/
structure VSpec where
  params : List EN
  results : List EN
  own : Option (List Nat)
  fn : TT params → Option (TT results)

/-- The tree that a run comes to. -/
inductive Tr : Type → Type 1 where
  | ret {R : Type} (r : R) : Tr R
  | fail {R : Type} : Tr R
  | ite {R : Type} (b : Bool) (t e : Tr R) : Tr R
  | guard {R : Type} (b : Bool) (t : Tr R) : Tr R
  | bind {R A : Type} (m : Option A) (k : A → Tr R) : Tr R
  | loop {R L : Type} (step : L → Tr (L ⊕ R)) (l : L) : Tr R
  | map {R A : Type} (f : A → R) (t : Tr A) : Tr R

/-- How a cell of a variable that varies in a loop is taken. -/
inductive CK where
  | dat (k : LK) | own (et : Nat) (e : EN)

/-- How a slot that lives at a loop's head is taken: data that varies; a row of the function's own; a variable in memory that varies, whole or cell by cell; as it stood; a part of a row that varies where it lies. -/
inductive SigV where
  | dat (e : EN) | own (et : Nat) (e : EN) | var (e : EN) | cls (ks : List CK) | same | wrow (et : Nat) (e : EN)

/-- A note on a loop: which slots live at its head, and how they are to be taken; or how many rounds are laid out. -/
inductive Hint where
  | head (slots : List (Nat × SigV))
  | unroll (n : Nat)

structure Env where
  ty : List (Nat × TyI)
  specs : List (Nat × VSpec)
  inl : List (Nat × Func)
  hints : List ((Nat × Nat) × Hint)

def look {α : Type} : List (Nat × α) → Nat → Option α
  | [], _ => none
  | (i, a) :: r, n => match Nat.beq i n with | true => some a | false => look r n

/- ---------------------------------------------------------------- operations -/

/-- What an operation comes to: its value and what it lays into objects; it may look at objects. -/
inductive OT (A : Type) : Type 1 where
  | fail
  | out (a : A)
  | guard (b : Bool) (t : OT A)
  | ite (b : Bool) (t e : OT A)
  | get (id : Nat) (f : Option SO → OT A)
  | bind {B : Type} (m : Option B) (f : B → OT A)

/-- Its answer is handed on, with the objects that were looked at. -/
def OT.k {A R : Type} (H : Heap) : OT A → List Nat → (A → List Nat → Tr R) → Tr R
  | .fail, _, _ => .fail
  | .out a, rs, k => k a rs
  | .guard b t, rs, k => .guard b (t.k H rs k)
  | .ite b t e, rs, k => .ite b (t.k H rs k) (e.k H rs k)
  | .get id f, rs, k => (f (H id)).k H (id :: rs) k
  | .bind m f, rs, k => .bind m fun a => (f a).k H rs k

/-- The same, straight on. -/
def OT.run {A : Type} (H : Heap) : OT A → List Nat → Option (A × List Nat)
  | .fail, _ => none
  | .out a, rs => some (a, rs)
  | .guard b t, rs => if b = true then t.run H rs else none
  | .ite b t e, rs => if b = true then t.run H rs else e.run H rs
  | .get id f, rs => (f (H id)).run H (id :: rs)
  | .bind m f, rs => m.bind fun a => (f a).run H rs

/-- What an operation answers, and what it lays into objects. -/
abbrev Ans := SV × List (Nat × Option SO)

def ret (v : SV) : OT Ans := .out (v, [])

/-- An option whose answer is told by sight. -/
def onSome {α A : Type} (o : Option α) (f : α → OT A) : OT A := match o with | some a => f a | none => .fail

def rngB (k : IntKind) (n : Int) : Bool := decide (k.min ≤ n) && decide (n ≤ k.max)

def litOk : Value → Bool
  | .int k n => rngB k n
  | .string s => decide (s.size ≤ 9223372036854775807)
  | .agg _ | .tuple _ | .slice (some _) _ _ | .slice none (_ + 1) _ | .slice none 0 (_ + 1) | .func .. | .iface .. => false
  | _ => true

def ofConst1 (v : Value) : SV := match litOk v with | true => .lit v | false => .any

def ofConst : Value → SV
  | .agg cs => .agg (cs.toList.map ofConst1)
  | v => ofConst1 v

def SV.cells : SV → List SV
  | .agg cs => cs
  | v => [v]

def anySV : SV → Bool | .any => true | _ => false

/-- Is it surely one cell's value? -/
def cellSV : SV → Bool
  | .any | .agg _ | .tup _ | .lit (.tuple _) | .lit (.agg _) => false
  | _ => true

def asI : SV → Option (IntKind × Int × Bool)
  | .lit (.int k n) => some (k, n, true)
  | .leaf (.int k n) => some (k, n, false)
  | _ => none

def mkI (k : IntKind) (n : Int) (lit : Bool) : SV := match lit with | true => .lit (.int k n) | false => .leaf (.int k n)
def mkB (b : Bool) (lit : Bool) : SV := match lit with | true => .lit (.bool b) | false => .leaf (.bool b)

def asB : SV → Option (Bool × Bool)
  | .lit (.bool b) => some (b, true)
  | .leaf (.bool b) => some (b, false)
  | _ => none

def strOf (b : ByteArray) : List Int := b.data.toList.map fun c => (c.toNat : Int)

def asS : SV → Option (List Int)
  | .lit (.string b) => some (strOf b)
  | .leaf (.str s) => some s
  | _ => none

/-- A value as a leaf of a kind; and the objects that it takes in. -/
def toLeaf {A : Type} (k : LK) (v : SV) (f : Leaf → List Nat → OT A) : OT A :=
  match k with
  | .int k => match asI v with | some (k', n, _) => if k' = k then f (.int k n) [] else .fail | none => .fail
  | .bool => match asB v with | some (b, _) => f (.bool b) [] | none => .fail
  | .str => match asS v with | some s => f (.str s) [] | none => .fail
  | .sl e => match v with
    | .leaf (.sl e' xs) => if e' = e then f (.sl e' xs) [] else .fail
    | .lit (.slice none 0 0) => f (.sl e []) []
    | .own id => .get id fun
      | some (.row _ e' xs) => if e' = e then f (.sl e' xs) [id] else .fail
      | _ => .fail
    | .win id lo len => .get id fun
      | some (.row _ e' xs) => if e' = e then f (.sl e' ((xs.drop lo).take len)) [id] else .fail
      | _ => .fail
    | _ => .fail

def toLeaves {A : Type} : List LK → List SV → (List Leaf → List Nat → OT A) → OT A
  | [], [], f => f [] []
  | k :: ks, v :: vs, f => toLeaf k v fun l i => toLeaves ks vs fun ls is => f (l :: ls) (i ++ is)
  | _, _, _ => .fail

def isAggE : EN → Bool | .st _ => true | _ => false

def aggSV : SV → Bool | .agg _ => true | _ => false

def toT {A : Type} (e : EN) (v : SV) (f : T e → List Nat → OT A) : OT A :=
  match aggSV v == isAggE e with
  | true => toLeaves (kinds e) v.cells fun ls is => onSome (ofCells e ls) fun x => f x is
  | false => .fail

def toTT {A : Type} : (es : List EN) → List SV → (TT es → List Nat → OT A) → OT A
  | [], [], f => f () []
  | e :: es, v :: vs, f => toT e v fun x i => toTT es vs fun xs is => f (x, xs) (i ++ is)
  | _, _, _ => .fail

/-- A list of values as a list of elements. -/
def toElems {A : Type} (e : EN) : List SV → (List (T e) → List Nat → OT A) → OT A
  | [], f => f [] []
  | v :: vs, f => toT e v fun x i => toElems e vs fun xs is => f (x :: xs) (i ++ is)

/-- Objects that are taken in are read only from then on. -/
def freezeAll (is : List Nat) : List (Nat × Option SO) := is.map fun i => (i, none)

def nthT : (es : List EN) → TT es → List (Σ e, T e)
  | [], _ => []
  | e :: es, (x, xs) => ⟨e, x⟩ :: nthT es xs

/-- Cells as a value. -/
def mkVal (e : EN) (cs : List SV) : SV :=
  match isAggE e, cs with
  | true, cs => .agg cs
  | false, [c] => c
  | false, cs => .agg cs

def datSV (e : EN) (x : T e) : SV := mkVal e ((cells e x).map .leaf)

/-- The cells of a result whose slices are the caller's own: their objects are numbered from n on. -/
def ownCells : List Leaf → List Nat → Nat → List SV × List (Nat × Option SO) × List Nat × Nat
  | [], ets, n => ([], [], ets, n)
  | .sl e xs :: ls, ets, n => let r := ownCells ls ets.tail (n + 1); (.own n :: r.1, (n, some (.row (ets.headD 0) e xs)) :: r.2.1, r.2.2)
  | l :: ls, ets, n => let r := ownCells ls ets n; (.leaf l :: r.1, r.2.1, r.2.2)

def ownVals : List (Σ e, T e) → List Nat → Nat → List SV × List (Nat × Option SO)
  | [], _, _ => ([], [])
  | x :: xs, ets, n =>
    let r := ownCells (cells x.1 x.2) ets n
    let q := ownVals xs r.2.2.1 r.2.2.2
    (mkVal x.1 r.1 :: q.1, r.2.1 ++ q.2)

def hasSl (es : List EN) : Bool := es.any fun e => (kinds e).any fun | .sl _ => true | _ => false

def oneOr (vs : List SV) : SV := match vs with | [v] => v | vs => .tup vs

/-- Does a result's slice hold slices? -/
def hasDeep (es : List EN) : Bool := es.any fun e => (kinds e).any fun | .sl e' => (kinds e').any (fun | .sl _ => true | _ => false) | _ => false

def slCount (es : List EN) : Nat := ((es.flatMap kinds).filter fun | .sl _ => true | _ => false).length

def callSpec (nid : Nat) (s : VSpec) (args : List SV) : OT Ans :=
  toTT s.params args fun x is => .bind (s.fn x) fun r =>
    match s.own with
    | some ets => match Nat.ble (slCount s.results) 64 with
      | true => let q := ownVals (nthT s.results r) ets nid; .out ((oneOr q.1), (match hasDeep s.results with | true => freezeAll is | false => []) ++ q.2)
      | false => .fail
    | none => .out ((oneOr ((nthT s.results r).map fun p => datSV p.1 p.2)), (match hasSl s.results with | true => freezeAll is | false => []))

/- integers -/
def ibits (op : BinOp) (k : IntKind) (x y : Int) : Int :=
  let a := BitVec.ofInt k.bits x
  let b := BitVec.ofInt k.bits y
  k.wrap (match op with | .and => a &&& b | .or => a ||| b | .xor => a ^^^ b | _ => a &&& ~~~b).toNat

def shlI (k : IntKind) (x y : Int) : Int := k.wrap (x * 2 ^ (min y.toNat k.bits))
def shrI (k : IntKind) (x y : Int) : Int := x.fdiv (2 ^ (min y.toNat k.bits))

def intOp (op : BinOp) (k : IntKind) (x y : Int) (l : Bool) : OT Ans :=
  match op with
  | .add => ret (mkI k (k.wrap (x + y)) l)
  | .sub => ret (mkI k (k.wrap (x - y)) l)
  | .mul => ret (mkI k (k.wrap (x * y)) l)
  | .quo => .guard (y != 0) (ret (mkI k (k.wrap (x.tdiv y)) l))
  | .rem => .guard (y != 0) (ret (mkI k (x.tmod y) l))
  | .and | .or | .xor | .andNot => ret (mkI k (ibits op k x y) l)
  | .eql => ret (mkB (x == y) l)
  | .neq => ret (mkB (x != y) l)
  | .lss => ret (mkB (decide (x < y)) l)
  | .leq => ret (mkB (decide (x ≤ y)) l)
  | .gtr => ret (mkB (decide (x > y)) l)
  | .geq => ret (mkB (decide (x ≥ y)) l)
  | _ => .fail

def sizeT (E : Env) (t : Nat) : Option Nat := (look E.ty t).map (·.size)

/-- '==' of fields, one behind the other. -/
def eqFs (f : Nat → List SV → List SV → Option Bool) (size : Nat → Option Nat) (xs ys : List SV) : List (Nat × Nat) → Option Bool
  | [] => some true
  | (off, t) :: r => match size t with
    | some n => match Nat.ble (off + n) xs.length && Nat.ble (off + n) ys.length with
      | true => match f t ((xs.drop off).take n) ((ys.drop off).take n), eqFs f size xs ys r with
        | some a, some b => some (a && b)
        | _, _ => none
      | false => none
    | none => none

/-- '==' of values of a type. -/
def eqTy (E : Env) : Nat → Nat → List SV → List SV → Option Bool
  | 0, _, _, _ => none
  | n + 1, t, xs, ys => match look E.ty t with
    | some { d := .int _, .. } => match xs, ys with
      | [x], [y] => match asI x, asI y with
        | some (k, a, _), some (k', b, _) => if k = k' then some (a == b) else none
        | _, _ => none
      | _, _ => none
    | some { d := .bool, .. } => match xs, ys with
      | [x], [y] => match asB x, asB y with
        | some (a, _), some (b, _) => some (a == b)
        | _, _ => none
      | _, _ => none
    | some { d := .str, .. } => match xs, ys with
      | [x], [y] => match asS x, asS y with
        | some a, some b => some (a == b)
        | _, _ => none
      | _, _ => none
    | some { d := .st fs, eq := true, .. } => eqFs (eqTy E n) (sizeT E) xs ys fs
    | _ => none

def binT (E : Env) (op : BinOp) (t : Nat) (x y : SV) : OT Ans :=
  match asI x, asI y with
  | some (k, a, la), some (k', b, lb) => match op with
    | .shl => .guard (decide (0 ≤ b)) (ret (mkI k (shlI k a b) (la && lb)))
    | .shr => .guard (decide (0 ≤ b)) (ret (mkI k (shrI k a b) (la && lb)))
    | _ => if k = k' then intOp op k a b (la && lb) else .fail
  | _, _ => match asS x, asS y with
    | some a, some b => match op with
      | .eql => ret (.leaf (.bool (a == b)))
      | .neq => ret (.leaf (.bool (a != b)))
      | _ => .fail
    | _, _ => match asB x, asB y with
      | some (a, la), some (b, lb) => match op, look E.ty t with
        | .eql, some { d := .bool, .. } => ret (mkB (a == b) (la && lb))
        | .neq, some { d := .bool, .. } => ret (mkB (!(a == b)) (la && lb))
        | _, _ => .fail
      | _, _ => match x, y, look E.ty t with
        | .agg xs, .agg ys, some { d := .st _, eq := true, .. } => match op, eqTy E 8 t xs ys with
          | .eql, some r => ret (.leaf (.bool r))
          | .neq, some r => ret (.leaf (.bool !r))
          | _, _ => .fail
        | .nn _ _, .lit (.slice none 0 0), some { d := .sl _, .. } => match op with
          | .eql => ret (.lit (.bool false))
          | .neq => ret (.lit (.bool true))
          | _ => .fail
        | .lit (.slice none 0 0), .lit (.slice none 0 0), some { d := .sl _, .. } => match op with
          | .eql => ret (.lit (.bool true))
          | .neq => ret (.lit (.bool false))
          | _ => .fail
        | _, _, _ => .fail

def unT (op : UnOp) (x : SV) : OT Ans :=
  match op, asI x, asB x with
  | .neg, some (k, n, l), _ => ret (mkI k (k.wrap (0 - n)) l)
  | .xor, some (k, n, l), _ => ret (mkI k (ibits .xor k (if k.signed then -1 else k.max) n) l)
  | .not, _, some (b, l) => ret (mkB (!b) l)
  | _, _, _ => .fail

/-- n cells from cell 'off' on. -/
def takeN {α : Type} (l : List α) (off n : Nat) : List α := (l.drop off).take n

/-- Cells laid over others, from 'off' on. -/
def layN {α : Type} (l : List α) (off : Nat) : List α → List α
  | [] => l
  | x :: xs => layN (l.set off x) (off + 1) xs

def aggOr (agg : Bool) (cs : List SV) : OT Ans :=
  match agg, cs with
  | true, cs => ret (.agg cs)
  | false, [c] => ret c
  | false, _ => .fail

def TyI.agg (t : TyI) : Bool := match t.d with | .st _ | .arr _ _ => true | _ => false

/-- Cells that a load takes: all of them must be there. -/
def loadCs (t : TyI) (cs : List SV) (off : Nat) : OT Ans :=
  let l := takeN cs off t.size
  match Nat.beq l.length t.size with
  | true => aggOr t.agg l
  | false => .fail

def loadT (t : TyI) (p : SV) : OT Ans :=
  match p with
  | .bptr id off => .get id fun
    | some (.blk cs) => loadCs t cs off
    | _ => .fail
  | .rptr ls => loadCs t (ls.map .leaf) 0
  | .optr id idx off => .get id fun
    | some (.row _ e xs) => loadCs t ((cells e (rd xs idx)).map .leaf) off
    | _ => .fail
  | _ => .fail

def storeT (t : TyI) (p v : SV) : OT Ans :=
  match Nat.beq v.cells.length t.size && v.cells.all cellSV with
  | false => .fail
  | true => match p with
    | .bptr id off => .get id fun
      | some (.blk cs) => match Nat.ble (off + t.size) cs.length with
        | true => .out ((.lit (.tuple #[])), [(id, some (.blk (layN cs off v.cells)))])
        | false => .fail
      | _ => .fail
    | .optr id idx off => .get id fun
      | some (.row et e xs) => toLeaves (takeN (kinds e) off t.size) v.cells fun ls is =>
        match is.any (Nat.beq id) || !Nat.ble (off + t.size) (sz e) with
        | true => .fail
        | false => onSome (ofCells e (layN (cells e (rd xs idx)) off ls)) fun x =>
          .out ((.lit (.tuple #[])), (freezeAll is ++ [(id, some (.row et e (xs.set idx x)))]))
      | _ => .fail
    | _ => .fail

def fieldAddrT (E : Env) (t : Nat) (p : SV) (f : Nat) : OT Ans :=
  match look E.ty t with
  | some { d := .st fs, .. } => match fs[f]? with
    | some (off, _) => match p with
      | .bptr id o => ret (.bptr id (o + off))
      | .rptr ls => ret (.rptr (ls.drop off))
      | .optr id i o => ret (.optr id i (o + off))
      | _ => .fail
    | none => .fail
  | _ => .fail

def fieldT (E : Env) (t : Nat) (x : SV) (f : Nat) : OT Ans :=
  match look E.ty t with
  | some { d := .st fs, .. } => match fs[f]? with
    | some (off, ft) => match look E.ty ft, x with
      | some i, .agg cs => loadCs i cs off
      | _, _ => .fail
    | none => .fail
  | _ => .fail

/-- An element's cells, of a slice type; is it that kind's? -/
def elemIs (E : Env) (t : Nat) (e : EN) : Bool :=
  match look E.ty t with
  | some { d := .sl el, .. } => match sizeT E el with
    | some s => Nat.beq s (sz e)
    | none => false
  | _ => false

/-- The address of an element: of what is read only; of a row of the function's own; of an array. -/
def indexAddrT (E : Env) (t : Nat) (x i : SV) : OT Ans :=
  match asI i with
  | none => .fail
  | some (_, n, l) => match x with
    | .leaf (.sl e xs) => match elemIs E t e with
      | true => .guard (decide (0 ≤ n ∧ n < (xs.length : Int))) (ret (.rptr (cells e (rd xs n.toNat))))
      | false => .fail
    | .own id => .get id fun
      | some (.row _ e xs) => match elemIs E t e with
        | true => .guard (decide (0 ≤ n ∧ n < (xs.length : Int))) (ret (.optr id n.toNat 0))
        | false => .fail
      | _ => .fail
    | .win id lo len => .get id fun
      | some (.row _ e _) => match elemIs E t e with
        | true => .guard (decide (0 ≤ n ∧ n < (len : Int))) (ret (.optr id (lo + n.toNat) 0))
        | false => .fail
      | _ => .fail
    | .bptr id off => match l, look E.ty t with
      | true, some { d := .arr len el, .. } => match decide (0 ≤ n ∧ n < (len : Int)), sizeT E el with
        | true, some s => ret (.bptr id (off + n.toNat * s))
        | _, _ => .fail
      | _, _ => .fail
    | _ => .fail

def lenT (E : Env) (argTypes : List Nat) (x : SV) : OT Ans :=
  match argTypes with
  | [t] => match look E.ty t with
    | some { d := .sl _, .. } => match x with
      | .leaf (.sl _ xs) => ret (.leaf (.int .i64 xs.length))
      | .lit (.slice none 0 0) => ret (.lit (.int .i64 0))
      | .own id => .get id fun
        | some (.row _ _ xs) => ret (.leaf (.int .i64 xs.length))
        | _ => .fail
      | .win _ _ len => ret (.leaf (.int .i64 len))
      | _ => .fail
    | some { d := .str, .. } => match x with
      | .leaf (.str s) => ret (.leaf (.int .i64 s.length))
      | .lit (.string b) => ret (ofConst1 (.int .i64 b.size))
      | _ => .fail
    | some { d := .arr n _, .. } => ret (ofConst1 (.int .i64 n))
    | _ => .fail
  | _ => .fail

def indexT (E : Env) (t : Nat) (x i : SV) : OT Ans :=
  match asI i with
  | none => .fail
  | some (_, n, l) => match look E.ty t with
    | some { d := .str, .. } => match asS x with
      | some s => .guard (decide (0 ≤ n ∧ n < (s.length : Int))) (ret (.leaf (.int .u8 (rd (e := .int .u8) s n.toNat))))
      | none => .fail
    | some { d := .arr len el, .. } => match l, x with
      | true, .agg cs => match decide (0 ≤ n ∧ n < (len : Int)), look E.ty el with
        | true, some ti => loadCs ti cs (n.toNat * ti.size)
        | _, _ => .fail
      | _, _ => .fail
    | _ => .fail

def optI (d : Int) : Option SV → Option Int
  | none => some d
  | some v => match asI v with | some (_, n, _) => some n | none => none

/-- Cells, dealt into elements. -/
def chunk (s : Nat) : Nat → List SV → List SV
  | 0, _ => []
  | n + 1, cs => (match cs.take s with | [c] => c | l => .agg l) :: chunk s n (cs.drop s)

/-- Bounds of a slice's part. -/
def partT (n : Nat) (lo hi mx : Option SV) (f : Nat → Nat → Nat → OT Ans) : OT Ans :=
  match optI 0 lo, optI n hi, optI n mx, hi.isNone && mx.isSome with
  | some l, some h, some m, false => .guard (decide (0 ≤ l ∧ l ≤ h ∧ h ≤ m ∧ m ≤ (n : Int))) (f l.toNat h.toNat m.toNat)
  | _, _, _, _ => .fail

/-- A slice's part. -/
def sliceT (E : Env) (t : Nat) (x : SV) (lo hi mx : Option SV) : OT Ans :=
  match x with
  | .leaf (.sl e xs) => match elemIs E t e with
    | true => partT xs.length lo hi mx fun l h _ => ret (.leaf (.sl e ((xs.take h).drop l)))
    | false => .fail
  | .own id => .get id fun
    | some (.row _ e xs) => match elemIs E t e with
      | true => partT xs.length lo hi mx fun l h _ => ret (.win id l (h - l))
      | false => .fail
    | _ => .fail
  | .win id o len => .get id fun
    | some (.row _ e _) => match elemIs E t e with
      | true => partT len lo hi mx fun l h _ => ret (.win id (o + l) (h - l))
      | false => .fail
    | _ => .fail
  | .lit (.slice none 0 0) => match look E.ty t with
    | some { d := .sl el, .. } => match sizeT E el with
      | some _ => partT 0 lo hi mx fun _ _ _ => ret x
      | none => .fail
    | _ => .fail
  | .bptr id 0 => match lo, hi, mx, look E.ty t with
    | none, none, none, some { d := .arr n el, .. } => match look E.ty el with
      | some { en := some e, size := s, .. } => .get id fun
        | some (.blk cs) => match Nat.beq cs.length (n * s) && Nat.ble (n * s) 16777216 && cs.all cellSV, Nat.beq s (sz e) with
          | true, true => toElems e (chunk s n cs) fun xs is => .out ((.leaf (.sl e xs)), freezeAll (id :: is))
          | _, _ => .fail
        | _ => .fail
      | _ => .fail
    | _, _, _, _ => .fail
  | _ => .fail

/-- The element type and kind of a slice type. -/
def elemEN (E : Env) (t : Nat) : Option (Nat × EN) :=
  match look E.ty t with
  | some { d := .sl el, .. } => match look E.ty el with
    | some { en := some e, .. } => some (el, e)
    | _ => none
  | _ => none

/-- The most elements that a slice grows to. -/
def big : Nat := 1073741824

/-- A slice's elements. -/
def seqOf (x : SV) (f : (e : EN) → List (T e) → OT Ans) : OT Ans :=
  match x with
  | .leaf (.sl e xs) => f e xs
  | .nn e xs => f e xs
  | .own id => .get id fun
    | some (.row _ e xs) => f e xs
    | _ => .fail
  | .win id lo len => .get id fun
    | some (.row _ e xs) => f e ((xs.drop lo).take len)
    | _ => .fail
  | _ => .fail

def appendTo (nid et : Nat) (e : EN) (s : SV) (ys : List (T e)) : OT Ans :=
  match s with
  | .own id => .get id fun
    | some (.row et' e' xs) => match Nat.beq et et' with
      | true => if h : e' = e then
          .guard (decide (xs.length + ys.length ≤ big)) (.out ((.own nid), [(id, none), (nid, some (.row et e (castT h xs ++ ys)))]))
        else .fail
      | false => .fail
    | _ => .fail
  | .lit (.slice none 0 0) => .guard (decide (ys.length ≤ big)) (.out ((.own nid), [(nid, some (.row et e ys))]))
  | _ => .fail

def appendT (nid et : Nat) (e : EN) (s x : SV) : OT Ans :=
  match x with
  | .lit (.slice none 0 0) => appendTo nid et e s []
  | _ => seqOf x fun e' ys => if h : e' = e then appendTo nid et e s (castT h ys) else .fail

def copyT (E : Env) (t : Nat) (dst src : SV) : OT Ans :=
  seqOf src fun e ys => match elemIs E t e && Nat.beq (sz e) 1 with
    | false => .fail
    | true => match dst with
      | .own id => .get id fun
        | some (.row et e' xs) => if h : e = e' then
            .out (.leaf (.int .i64 (min ys.length xs.length : Nat)), [(id, some (.row et e' (castT h (ys.take xs.length) ++ xs.drop (min ys.length xs.length))))])
          else .fail
        | _ => .fail
      | .win id lo len => .get id fun
        | some (.row et e' xs) => if h : e = e' then
            .out (.leaf (.int .i64 (min ys.length len : Nat)), [(id, some (.row et e' (xs.take lo ++ castT h (ys.take len) ++ xs.drop (lo + min ys.length len))))])
          else .fail
        | _ => .fail
      | _ => .fail

def clearT (E : Env) (t : Nat) (x : SV) : OT Ans :=
  match x with
  | .own id => .get id fun
    | some (.row et e xs) => match elemEN E t with
      | some (_, e') => if e' = e then .out (.lit (.tuple #[]), [(id, some (.row et e (List.replicate xs.length (zeroT e))))]) else .fail
      | none => .fail
    | _ => .fail
  | .lit (.slice none 0 0) => match look E.ty t with
    | some { d := .sl _, .. } => ret (.lit (.tuple #[]))
    | _ => .fail
  | _ => .fail

def minT (lt : Bool) : SV → List SV → OT Ans
  | x, [] => ret x
  | x, y :: r => match asI x, asI y with
    | some (k, a, la), some (k', b, lb) => if k = k' then minT lt (mkI k (match lt with | true => (if b < a then b else a) | false => (if b > a then b else a)) (la && lb)) r else .fail
    | _, _ => .fail

def builtinT (E : Env) (nid : Nat) (b : Builtin) (argTypes : List Nat) (args : List SV) : OT Ans :=
  match b, args with
  | .len, [x] => lenT E argTypes x
  | .append, [s, x] => match argTypes with
    | [t, t'] => match Nat.beq t t', elemEN E t with
      | true, some (el, e) => appendT nid el e s x
      | _, _ => .fail
    | _ => .fail
  | .copy, [d, s] => match argTypes with
    | [t, _] => copyT E t d s
    | _ => .fail
  | .clear, [x] => match argTypes with
    | [t] => clearT E t x
    | _ => .fail
  | .min, x :: l => minT true x l
  | .max, x :: l => minT false x l
  | _, _ => .fail

def convT (E : Env) (src dst : Nat) (x : SV) : OT Ans :=
  match look E.ty src, look E.ty dst with
  | some { d := .int _, .. }, some { d := .int k, .. } => match asI x with
    | some (_, n, l) => ret (mkI k (k.wrap n) l)
    | none => .fail
  | some { d := .str, .. }, some { d := .str, .. } => match asS x with
    | some _ => ret x
    | none => .fail
  | some { d := .sl el, .. }, some { d := .str, .. } => match look E.ty el with
    | some { d := .int .u8, .. } => match x with
      | .lit (.slice none 0 0) => ret (.leaf (.str []))
      | _ => seqOf x fun e xs => match e, xs with
        | .int .u8, xs => ret (.leaf (.str xs))
        | _, _ => .fail
    | _ => .fail
  | some { d := .str, .. }, some { d := .sl el, .. } => match look E.ty el, asS x with
    | some { d := .int .u8, .. }, some s => ret (.leaf (.sl (.int .u8) s))
    | _, _ => .fail
  | _, _ => .fail

def makeSliceT (E : Env) (nid : Nat) (t : Nat) (len cap : SV) : OT Ans :=
  match look E.ty t, asI len, asI cap with
  | some { d := .sl el, .. }, some (_, n, _), some (_, c, _) => match look E.ty el with
    | some { en := some e, .. } => .guard (decide (0 ≤ n ∧ n ≤ c ∧ c ≤ (big : Int))) (.out ((.own nid), [(nid, some (.row el e (List.replicate n.toNat (zeroT e))))]))
    | _ => .fail
  | _, _, _ => .fail

/-- Parts laid into a zero value's cells. -/
def fillT (place : Nat → Option (Nat × Nat)) (cs : List SV) : List (Nat × SV) → Option (List SV)
  | [] => some cs
  | (i, v) :: r => match place i with
    | some (off, s) => match Nat.beq v.cells.length s && Nat.ble (off + s) cs.length && !anySV v with
      | true => fillT place (layN cs off v.cells) r
      | false => none
    | none => none

def buildT (E : Env) (t : Nat) (parts : List (Nat × SV)) : OT Ans :=
  match look E.ty t with
  | some { d := .st fs, zero := z, .. } => onSome (fillT (fun i => (fs[i]?).bind fun p => (sizeT E p.2).map fun s => (p.1, s)) z parts) fun cs => ret (.agg cs)
  | some { d := .arr _ el, zero := z, .. } => onSome (sizeT E el) fun s => onSome (fillT (fun i => some (i * s, s)) z parts) fun cs => ret (.agg cs)
  | _ => .fail

def repeatN {α : Type} (l : List α) : Nat → List α
  | 0 => []
  | n + 1 => l ++ repeatN l n

def buildSliceT (E : Env) (nid : Nat) (t len : Nat) (parts : List (Nat × SV)) : OT Ans :=
  match look E.ty t with
  | some { d := .sl el, .. } => match look E.ty el with
    | some { en := some e, size := s, zero := z, .. } =>
      match Nat.beq s (sz e) && Nat.ble (len * s) 16777216 with
      | true => onSome (fillT (fun i => some (i * s, s)) (repeatN z len) parts) fun cs => match cs.all cellSV with
        | false => .fail
        | true => toElems e (chunk s len cs) fun xs is => .out ((.own nid), (freezeAll is ++ [(nid, some (.row el e xs))]))
      | false => .fail
    | _ => .fail
  | _ => .fail

def ev (tmps : List SV) : Operand → SV
  | .tmp t => (tmps[t]?).getD .any
  | .const v => ofConst v
  | .global _ => .any
  | .func f => .fn f [] []

/-- An operation that calls no function of the program's own text. -/
def opT (E : Env) (ρ : Operand → SV) (nid : Nat) (o : Op) : OT Ans :=
  match o with
  | .move x | .assign x => ret (ρ x)
  | .pick c a b => match asB (ρ c) with
    | some (t, true) => match t with | true => ret (ρ a) | false => ret (ρ b)
    | some (t, false) => match asB (ρ a), asB (ρ b) with
      | some (x, _), some (y, _) => ret (.leaf (.bool (match t with | true => x | false => y)))
      | _, _ => .ite t (ret (ρ a)) (ret (ρ b))
    | none => .fail
  | .alloc t => match look E.ty t with
    | some i => .out ((.bptr nid 0), [(nid, some (.blk i.zero))])
    | none => .fail
  | .box t x => match sizeT E t with
    | some s => match Nat.beq (ρ x).cells.length s && !anySV (ρ x) with
      | true => .out ((.bptr nid 0), [(nid, some (.blk (ρ x).cells))])
      | false => .fail
    | none => .fail
  | .build t ps => buildT E t (ps.toList.map fun p => (p.1, ρ p.2))
  | .buildSlice t n ps => buildSliceT E nid t n (ps.toList.map fun p => (p.1, ρ p.2))
  | .load t a => match look E.ty t with | some i => loadT i (ρ a) | none => .fail
  | .store t a x => match look E.ty t with | some i => storeT i (ρ a) (ρ x) | none => .fail
  | .nilCheck x => match ρ x with
    | .bptr id off => ret (.bptr id off)
    | .rptr ls => ret (.rptr ls)
    | .optr a b c => ret (.optr a b c)
    | .fn f a b => ret (.fn f a b)
    | _ => .fail
  | .binOp op t x y _ => binT E op t (ρ x) (ρ y)
  | .unOp op _ x => unT op (ρ x)
  | .convert s d x => convT E s d (ρ x)
  | .makeFunc (.func f) a c => ret (.fn f (a.toList.map ρ) (c.toList.map ρ))
  | .makeSlice t l c => makeSliceT E nid t (ρ l) (ρ c)
  | .slice t x lo hi mx => sliceT E t (ρ x) (lo.map ρ) (hi.map ρ) (mx.map ρ)
  | .fieldAddr t x f => fieldAddrT E t (ρ x) f
  | .field t x f => fieldT E t (ρ x) f
  | .indexAddr t x i => indexAddrT E t (ρ x) (ρ i)
  | .index t x i => indexT E t (ρ x) (ρ i)
  | .makeInterface t x => match look E.ty t with
    | some { d := .str, .. } => ret (.iface t (ρ x))
    | some { d := .int _, .. } => ret (.iface t (ρ x))
    | _ => .fail
  | .extract x i => match ρ x with
    | .tup vs => match vs[i]? with | some v => ret v | none => .fail
    | _ => .fail
  | .call { callee := .builtin b, args, argTypes } => builtinT E nid b argTypes.toList (args.toList.map ρ)
  | _ => .fail

/-- What a call of a function value comes to. -/
def calleeT (ρ : Operand → SV) (f : Operand) (args : Array Operand) : Option (Nat × List SV) :=
  match ρ f with
  | .fn n first captured => some (n, first ++ args.toList.map ρ ++ captured)
  | _ => none

def callOf : Op → Option (Operand × Array Operand)
  | .call { callee := .value f, args, .. } => some (f, args)
  | _ => none

/- ---------------------------------------------------------------- code -/

inductive Ex where
  | normal | exit (id : Nat) | goto (l : Nat) | ret
  deriving DecidableEq

def setTmp (S : St) (d : Option Nat) (v : SV) : St :=
  match d with
  | some d => { S with tmps := S.tmps.set d v }
  | none => S

def tmpAt (tmps : List SV) (t : Nat) : SV := (tmps[t]?).getD .any

/-- Is an operation to run? -/
def wantedS (ops : Array Oper) (tmps : List SV) (o : Oper) : Option Bool :=
  match o.guard with
  | none => some true
  | some (j, want) => match (ops[j]?).bind (·.dst) with
    | none => none
    | some d => match tmpAt tmps d with
      | .lit (.bool b) => match b, want with
        | true, true | false, false => some true
        | _, _ => some false
      | .lit (.tuple _) => some false
      | _ => none

/-- Does a later operation hang on this one's answer? -/
def isGuard (ops : Array Oper) (i : Nat) : Bool := ops.toList.any fun o => match o.guard with | some (j, _) => Nat.beq j i | none => false

def litV (g : Bool) (v : SV) : SV :=
  match g, v with
  | true, .leaf (.bool b) => .lit (.bool b)
  | _, v => v

/-- An answer that others hang on is told apart at once. -/
def litK {R : Type} (g : Bool) (v : SV) (k : SV → Tr R) : Tr R :=
  match g, v with
  | true, .leaf (.bool b) => .ite b (k (.lit (.bool true))) (k (.lit (.bool false)))
  | _, v => k v

structure Foot where
  rd : List Nat
  wr : List Nat
  top : Bool

abbrev CallK := {R : Type} → Nat → List SV → Mem → (SV → Mem → Tr R) → Tr R

def opK (E : Env) (call : CallK) (ops : Array Oper) (base i : Nat) (o : Oper) {R : Type} (S : St) (k : St → Foot → Tr R) : Tr R :=
  match wantedS ops S.tmps o with
  | none => .fail
  | some false => k (setTmp S o.dst (.lit (.tuple #[]))) ⟨[], [], false⟩
  | some true =>
    let g := isGuard ops i
    let fin (t : OT Ans) : Tr R := t.k S.m.objs [] fun a rs => litK g a.1 fun v => k (setTmp { S with m := { S.m with objs := putAll S.m.objs a.2 } } o.dst v) ⟨rs, a.2.map (·.1), false⟩
    match callOf o.op with
    | some (f, args) => match calleeT (ev S.tmps) f args with
      | some (n, as) => match look E.specs n with
        | some s => fin (callSpec (base + 64 * i) s as)
        | none => call n as S.m fun v m' => litK g v fun v => k (setTmp { S with m := m' } o.dst v) ⟨[], [], true⟩
      | none => .fail
    | none => fin (opT E (ev S.tmps) (base + 64 * i) o.op)

def opsK (E : Env) (call : CallK) (ops : Array Oper) (base : Nat) {R : Type} : Nat → List Oper → St → List Foot → (St → List Foot → Tr R) → Tr R
  | _, [], S, fps, k => k S fps.reverse
  | i, o :: r, S, fps, k => opK E call ops base i o S fun S' fp => opsK E call ops base (i + 1) r S' (fp :: fps) k

/- orders -/
def slotOf : Operand → Option Nat
  | .tmp t => some t
  | _ => none

def looks (ops : Array Oper) (o : Oper) : List Nat :=
  (o.op.operands.toList.filterMap slotOf) ++ (match o.guard with | some (g, _) => ((ops[g]?).bind (·.dst)).toList | none => [])

def inB (n : Nat) : List Nat → Bool
  | [] => false
  | m :: r => match Nat.beq n m with | true => true | false => inB n r

def meet (a b : List Nat) : Bool := a.any fun i => inB i b

/-- What an operation hangs on, one behind the other: a set of numbers, as bits. -/
def ancOf (acc : List Nat) (o : Oper) : Nat :=
  o.after.toList.foldl (fun s e => match Region.binds .any e with | true => s ||| 2 ^ e.on ||| (acc[e.on]?).getD 0 | false => s) 0

def ancGo : List Oper → List Nat → List Nat
  | [], acc => acc
  | o :: r, acc => ancGo r (acc ++ [ancOf acc o])

def ancs (ops : List Oper) : List Nat := ancGo ops []

structure Row where
  dst : Option Nat
  looks : List Nat
  fp : Foot
  anc : Nat

def rowsOf (ops : Array Oper) (fps : List Foot) : List Row :=
  List.zipWith (fun (p : Oper × Nat) f => { dst := p.1.dst, looks := looks ops p.1, fp := f, anc := p.2 }) (ops.toList.zip (ancs ops.toList)) fps

def apartDst (a b : Row) : Bool :=
  match a.dst with
  | some d => !inB d b.looks && (match b.dst with | some d' => !Nat.beq d d' | none => true)
  | none => true

def Foot.quiet (f : Foot) : Bool := f.rd.isEmpty && f.wr.isEmpty && !f.top

/-- May these two come in either order? -/
def indep (a b : Row) : Bool :=
  apartDst a b && apartDst b a &&
  (match a.fp.top || b.fp.top with
   | true => a.fp.quiet || b.fp.quiet
   | false => !meet a.fp.wr b.fp.rd && !meet a.fp.wr b.fp.wr && !meet b.fp.wr a.fp.rd)

/-- Each two that hang not on each other may come in either order. -/
def indepAll : Nat → List Row → List Row → Bool
  | _, _, [] => true
  | i, before, b :: r => (go 0 before b) && indepAll (i + 1) (before ++ [b]) r
where
  go : Nat → List Row → Row → Bool
    | _, [], _ => true
    | j, a :: r, b => (b.anc.testBit j || indep a b) && go (j + 1) r b

/-- Each operation waits for earlier ones alone. -/
def backB : Nat → List Oper → Bool
  | _, [] => true
  | i, o :: r => (o.after.toList.all fun e => !Region.binds .any e || Nat.blt e.on i) && backB (i + 1) r

def regionK (E : Env) (call : CallK) (ops : Array Oper) (draw : Bool) {R : Type} (S : St) (k : St → Tr R) : Tr R :=
  opsK E call ops S.m.next 0 ops.toList { S with m := { S.m with next := S.m.next + 64 * ops.size } } [] fun S' fps =>
    match !draw || (backB 0 ops.toList && indepAll 0 [] (rowsOf ops fps)) with
    | true => k { S' with m := { S'.m with wl := fps.flatMap (·.wr) ++ S'.m.wl } }
    | false => .fail

/- loops -/
def CT : List CK → Type
  | [] => Unit
  | .dat k :: r => (match k with | .int _ => Int | .bool => Bool | .str => List Int | .sl e => List (T e)) × CT r
  | .own _ e :: r => List (T e) × CT r

/-- What of a loop's head varies. -/
def SigT : List (Nat × SigV) → Type
  | [] => Unit
  | (_, .dat e) :: r => T e × SigT r
  | (_, .own _ e) :: r => List (T e) × SigT r
  | (_, .var e) :: r => T e × SigT r
  | (_, .cls ks) :: r => CT ks × SigT r
  | (_, .same) :: r => SigT r
  | (_, .wrow _ e) :: r => List (T e) × SigT r

mutual
/-- Are two values the same pointers? -/
def samePtr : SV → SV → Bool
  | .bptr a i, .bptr b j => Nat.beq a b && Nat.beq i j
  | .own a, .own b => Nat.beq a b
  | .fn f a c, .fn g b d => Nat.beq f g && samePtrs a b && samePtrs c d
  | .lit (.pointer none), .lit (.pointer none) => true
  | _, _ => false
def samePtrs : List SV → List SV → Bool
  | [], [] => true
  | a :: as, b :: bs => samePtr a b && samePtrs as bs
  | _, _ => false
end

/-- A whole row of the function's own, or nil. -/
def ownRow {A : Type} (et : Nat) (e : EN) (v : SV) (f : List (T e) → List Nat → OT A) : OT A :=
  match v with
  | .lit (.slice none 0 0) => f [] []
  | .own id => .get id fun
    | some (.row et' e' xs) => match Nat.beq et et' with
      | true => if h : e' = e then f (castT h xs) [id] else .fail
      | false => .fail
    | _ => .fail
  | _ => .fail

/-- A cell-wise reading: what is taken in as data; what is taken over. -/
def readCT {A : Type} : (ks : List CK) → List SV → (CT ks → List Nat → List Nat → OT A) → OT A
  | [], [], f => f () [] []
  | .dat (.int k) :: ks, v :: vs, f => toT (.int k) v fun x i => readCT ks vs fun xs is os => f (x, xs) (i ++ is) os
  | .dat .bool :: ks, v :: vs, f => toT .bool v fun x i => readCT ks vs fun xs is os => f (x, xs) (i ++ is) os
  | .dat .str :: ks, v :: vs, f => toT .str v fun x i => readCT ks vs fun xs is os => f (x, xs) (i ++ is) os
  | .dat (.sl e) :: ks, v :: vs, f => toT (.sl e) v fun x i => readCT ks vs fun xs is os => f (x, xs) (i ++ is) os
  | .own et e :: ks, v :: vs, f => ownRow et e v fun x o => readCT ks vs fun xs is os => f (x, xs) is (o ++ os)
  | _, _, _ => .fail

/-- Read it off a state (t0: the slots ahead of the loop): what is taken in as data; which objects are taken over. -/
def readSig {A : Type} (t0 tmps : List SV) : (l : List (Nat × SigV)) → (SigT l → List Nat → List Nat → OT A) → OT A
  | [], f => f () [] []
  | (t, .dat e) :: r, f => toT e (tmpAt tmps t) fun a i => readSig t0 tmps r fun x is os => f (a, x) (i ++ is) os
  | (t, .own et e) :: r, f => ownRow et e (tmpAt tmps t) fun a o => readSig t0 tmps r fun x is os => f (a, x) is (o ++ os)
  | (t, .var e) :: r, f => match samePtr (tmpAt t0 t) (tmpAt tmps t), tmpAt tmps t with
    | true, .bptr id 0 => .get id fun
      | some (.blk cs) => toT e (mkVal e cs) fun a i => readSig t0 tmps r fun x is os => f (a, x) (i ++ is) (id :: os)
      | _ => .fail
    | _, _ => .fail
  | (t, .cls ks) :: r, f => match samePtr (tmpAt t0 t) (tmpAt tmps t), tmpAt tmps t with
    | true, .bptr id 0 => .get id fun
      | some (.blk cs) => readCT ks cs fun a i o => readSig t0 tmps r fun x is os => f (a, x) (i ++ is) (id :: o ++ os)
      | _ => .fail
    | _, _ => .fail
  | (t, .same) :: r, f => match samePtr (tmpAt t0 t) (tmpAt tmps t) with
    | true => readSig t0 tmps r f
    | false => .fail
  | (t, .wrow et e) :: r, f => match tmpAt t0 t, tmpAt tmps t with
    | .win a lo len, .win b lo' len' => match Nat.beq a b with
      | true => .guard (decide (lo = lo' ∧ len = len')) (.get b fun
        | some (.row et' e' xs) => match Nat.beq et et' with
          | true => if h : e' = e then readSig t0 tmps r fun x is os => f (castT h xs, x) is (b :: os) else .fail
          | false => .fail
        | _ => .fail)
      | false => .fail
    | _, _ => .fail

def distinctB : List Nat → Bool
  | [] => true
  | a :: r => !inB a r && distinctB r

/-- The cells of a variable at a loop's head; its own rows are numbered from n on. -/
def headCT : (ks : List CK) → CT ks → Nat → List SV × List (Nat × Option SO) × Nat
  | [], _, n => ([], [], n)
  | .dat (.int k) :: ks, (x, xs), n => let r := headCT ks xs n; (.leaf (.int k x) :: r.1, r.2)
  | .dat .bool :: ks, (x, xs), n => let r := headCT ks xs n; (.leaf (.bool x) :: r.1, r.2)
  | .dat .str :: ks, (x, xs), n => let r := headCT ks xs n; (.leaf (.str x) :: r.1, r.2)
  | .dat (.sl e) :: ks, (x, xs), n => let r := headCT ks xs n; (.leaf (.sl e x) :: r.1, r.2)
  | .own et e :: ks, (x, xs), n => let r := headCT ks xs (n + 1); (.own n :: r.1, (n, some (.row et e x)) :: r.2.1, r.2.2)

/-- The state at the loop's head: t0 is the slots ahead of it. -/
def headSig (t0 : List SV) : (l : List (Nat × SigV)) → SigT l → St → St
  | [], _, S => S
  | (t, .dat e) :: r, (a, x), S => headSig t0 r x { S with tmps := S.tmps.set t (datSV e a) }
  | (t, .own et e) :: r, (a, x), S => headSig t0 r x { tmps := S.tmps.set t (.own S.m.next), m := { S.m with objs := putH S.m.objs S.m.next (some (.row et e a)), next := S.m.next + 1 } }
  | (t, .var e) :: r, (a, x), S => match tmpAt t0 t with
    | .bptr id o => headSig t0 r x { tmps := S.tmps.set t (.bptr id o), m := { S.m with objs := putH S.m.objs id (some (.blk ((cells e a).map .leaf))) } }
    | _ => headSig t0 r x S
  | (t, .cls ks) :: r, (a, x), S => match tmpAt t0 t with
    | .bptr id o =>
      let q := headCT ks a S.m.next
      headSig t0 r x { tmps := S.tmps.set t (.bptr id o), m := { S.m with objs := putAll (putH S.m.objs id (some (.blk q.1))) q.2.1, next := q.2.2 } }
    | _ => headSig t0 r x S
  | (t, .same) :: r, x, S => headSig t0 r x { S with tmps := S.tmps.set t (tmpAt t0 t) }
  | (t, .wrow et e) :: r, (a, x), S => match tmpAt t0 t with
    | .win id lo len => headSig t0 r x { tmps := S.tmps.set t (.win id lo len), m := { S.m with objs := putH S.m.objs id (some (.row et e a)) } }
    | _ => headSig t0 r x S

/-- Nothing has been written but these, and what is new. -/
def onlyWrote (n : Nat) (ids wl : List Nat) : Bool := wl.all fun i => Nat.ble n i || inB i ids

def firstRegion : Code → Option Nat
  | .region id _ _ => some id
  | .seq a b => match firstRegion a with | some i => some i | none => firstRegion b
  | .block _ c => firstRegion c
  | .loop c => firstRegion c
  | .cond _ a b => match firstRegion a with | some i => some i | none => firstRegion b
  | _ => none

def hintGo (fid i : Nat) : List ((Nat × Nat) × Hint) → Option Hint
  | [] => none
  | ((f, j), h) :: r => match Nat.beq f fid && Nat.beq j i with | true => some h | false => hintGo fid i r

def hintOf (E : Env) (fid : Nat) (c : Code) : Option Hint :=
  match firstRegion c with
  | none => none
  | some i => hintGo fid i E.hints

abbrev BodyK := {R : Type} → St → (Ex → St → Tr R) → Tr R

def unrollK (body : BodyK) : Nat → BodyK
  | 0 => fun _ _ => .fail
  | n + 1 => fun S k => body S fun e S' => match e with
    | .normal => unrollK body n S' k
    | e => k e S'

/-- The state at a loop's head: what was taken in or over (is) is gone, and stands anew. -/
def loopHead (t0 : List SV) (m : Mem) (is : List Nat) (sl : List (Nat × SigV)) (l : SigT sl) : St :=
  headSig t0 sl l { tmps := t0.map fun _ => .any, m := { objs := putAll m.objs (freezeAll is), next := m.next, wl := [] } }

/-- What is read of a state at a loop's head. -/
def sigOf (t0 tmps : List SV) (sl : List (Nat × SigV)) : OT (SigT sl × List Nat) :=
  readSig t0 tmps sl fun x is os => match distinctB os && !meet os is with
    | true => .out (x, is ++ os)
    | false => .fail

def codeK (E : Env) (call : CallK) (fid : Nat) : Code → BodyK
  | .skip => fun S k => k .normal S
  | .label _ => fun S k => k .normal S
  | .region _ ops draw => fun S k => regionK E call ops draw S fun S' => k .normal S'
  | .seq a b => fun S k => codeK E call fid a S fun e S' => match e with
    | .normal => codeK E call fid b S' k
    | e => k e S'
  | .cond c a b => fun S k => match ev S.tmps c with
    | .lit (.bool t) => match t with
      | true => codeK E call fid a S k
      | false => codeK E call fid b S k
    | .leaf (.bool t) => match c with
      | .tmp d => .ite t (codeK E call fid a { S with tmps := S.tmps.set d (.lit (.bool true)) } k) (codeK E call fid b { S with tmps := S.tmps.set d (.lit (.bool false)) } k)
      | _ => .fail
    | _ => .fail
  | .block id c => fun S k => codeK E call fid c S fun e S' => match e with
    | .exit i => match Nat.beq i id with | true => k .normal S' | false => k (.exit i) S'
    | e => k e S'
  | .loop c => fun S k => match hintOf E fid c with
    | none => .fail
    | some (.unroll n) => unrollK (codeK E call fid c) n S k
    | some (.head sl) => (sigOf S.tmps S.tmps sl).k S.m.objs [] fun p _ => match p with
      | (x, is) => .loop (L := SigT sl) (fun l => codeK E call fid c (loopHead S.tmps S.m is sl l) fun e S' => match e with
        | .normal => (sigOf S.tmps S'.tmps sl).k S'.m.objs [] fun q _ => match q with
          | (y, js) => match onlyWrote S.m.next is (js ++ S'.m.wl) && Nat.beq S'.tmps.length S.tmps.length with
            | true => .ret (.inl y)
            | false => .fail
        | e => .map .inr (k e { S' with m := { S'.m with wl := S'.m.wl ++ is ++ S.m.wl } })) x
  | .scope c => fun S k => codeK E call fid c S fun e S' => match e with
    | .goto _ => .fail
    | e => k e S'
  | .exit id => fun S k => k (.exit id) S
  | .goto l => fun S k => k (.goto l) S
  | .ret => fun S k => k .ret S
  | .rangeFunc .. => fun _ _ => .fail
  | .refuse _ => fun _ _ => .fail

/-- A function's results. -/
def resultsT (E : Env) (tmps : List SV) : List ResultVar → (List SV → OT Ans) → OT Ans
  | [], f => f []
  | .tmp t :: r, f => match tmps[t]? with
    | some v => resultsT E tmps r fun vs => f (v :: vs)
    | none => .fail
  | .cell a t :: r, f => match look E.ty t, tmpAt tmps a with
    | some i, .bptr id off => .get id fun
      | some (.blk cs) =>
        let l := takeN cs off i.size
        match Nat.beq l.length i.size, i.agg, l with
        | true, true, l => resultsT E tmps r fun vs => f (.agg l :: vs)
        | true, false, [c] => resultsT E tmps r fun vs => f (c :: vs)
        | _, _, _ => .fail
      | _ => .fail
    | _, _ => .fail

def callK (E : Env) : Nat → CallK
  | 0 => fun _ _ _ _ => .fail
  | n + 1 => fun f args m k => match look E.inl f with
    | none => .fail
    | some fn => match fn.body with
      | none => .fail
      | some c => codeK E (callK E n) f c { tmps := args ++ List.replicate (fn.ntmps - args.length) (.lit (.tuple #[])), m } fun e S' => match e with
        | .normal | .ret => (resultsT E S'.tmps fn.results.toList fun vs => ret (oneOr vs)).k S'.m.objs [] fun v _ => k v.1 S'.m
        | _ => .fail

/-- What a contract tells, of results that are data; or of such whose slices are the caller's own. -/
def outSV (vs : SV) (n : Nat) : List SV := match n, vs with | 1, v => [v] | _, .tup l => l | _, v => [v]

/-- Each slice of a result is a whole row of the function's own, and no two are one. -/
def ownIds : List SV → Option (List (Option Nat))
  | [] => some []
  | .own id :: r => (ownIds r).map fun l => some id :: l
  | .lit (.slice none 0 0) :: r => (ownIds r).map fun l => none :: l
  | .win .. :: _ => none
  | .leaf (.sl _ _) :: _ => none
  | _ :: r => ownIds r

def ownTypes (ets : List Nat) : List (Option Nat) → (Bool → OT Ans) → OT Ans
  | [], f => f true
  | none :: r, f => ownTypes ets.tail r f
  | some id :: r, f => .get id fun
    | some (.row et _ _) => match Nat.beq et (ets.headD 0) with
      | true => ownTypes ets.tail r f
      | false => .fail
    | _ => .fail

/-- A function's tree over its parameters as data. -/
def fnTree (E : Env) (f : Nat) (params results : List EN) (own : Option (List Nat)) (x : TT params) : Tr (TT results) :=
  callK E 9 f ((nthT params x).map fun p => datSV p.1 p.2) { objs := fun _ => none, next := 0, wl := [] } fun v m =>
    let vs := outSV v results.length
    let done : Tr (TT results) := (toTT results vs fun r _ => OT.out r).k m.objs [] fun r _ => .ret r
    match own with
    | none => done
    | some ets => match ownIds (vs.flatMap SV.cells) with
      | none => .fail
      | some ids => match distinctB (ids.filterMap id) with
        | false => .fail
        | true => (ownTypes ets ids fun _ => ret .any).k m.objs [] fun _ _ => done

/- ---------------------------------------------------------------- what a tree says -/

def iter {L R : Type} (step : L → Option (L ⊕ R)) : Nat → L → Option R
  | 0, _ => none
  | n + 1, l => match step l with
    | none => none
    | some (.inl l') => iter step n l'
    | some (.inr r) => some r

open Classical in
noncomputable def loopO {L R : Type} (step : L → Option (L ⊕ R)) (l : L) : Option R :=
  if h : ∃ n, (iter step n l).isSome then iter step h.choose l else none

noncomputable def Tr.den {R : Type} : Tr R → Option R
  | .ret r => some r
  | .fail => none
  | .ite b t e => if b = true then t.den else e.den
  | .guard b t => if b = true then t.den else none
  | .bind m k => m.bind fun a => (k a).den
  | .loop step l => loopO (fun x => (step x).den) l
  | .map f t => t.den.map f

end Go.Cat

namespace Go.Cat
open Go

/- ---------------------------------------------------------------- data and cells: small facts -/

theorem stKinds_length (s : SN) (x : STy s) : (stCells s x).length = (stKinds s).length := by
  cases s <;> rfl

theorem cells_length (e : EN) (x : T e) : (cells e x).length = sz e := by
  cases e <;> first | rfl | exact stKinds_length _ _

theorem stOf_cells (s : SN) (l : List Leaf) (x : STy s) (h : stOf s l = some x) : stCells s x = l := by
  cases s <;> simp only [stOf] at h <;> split at h <;> first | (cases h; rfl) | cases h

theorem castT_eq {e e' : EN} (h : e' = e) (xs : List (T e')) : (⟨e', xs⟩ : Σ e, List (T e)) = ⟨e, castT h xs⟩ := by
  subst h; rfl

theorem ofCells_cells (e : EN) (l : List Leaf) (x : T e) (h : ofCells e l = some x) : cells e x = l := by
  cases e with
  | int k => simp only [ofCells] at h; split at h <;> (try split at h) <;> simp_all [cells]
  | bool => simp only [ofCells] at h; split at h <;> simp_all [cells]
  | str => simp only [ofCells] at h; split at h <;> simp_all [cells]
  | sl e =>
    simp only [ofCells] at h
    split at h
    · rename_i e' xs
      split at h
      · rename_i he; subst he; cases h; rfl
      · cases h
    · cases h
  | st s => exact stOf_cells s l x h

/- ---------------------------------------------------------------- memory that is read only -/

abbrev Snap := Nat → Option Obj

def Snap.cell? (ro : Snap) (a : Addr) : Option Value :=
  match ro a.block with
  | some (.cells c _ _) => if a.spot.isSome then none else c[a.off]?
  | _ => none

def Snap.le (ro : Snap) (w : World) : Prop := ∀ b o, ro b = some o → w.heap[b]? = some o
def Snap.ext (r r' : Snap) : Prop := ∀ b o, r b = some o → r' b = some o

theorem Snap.ext_refl (r : Snap) : r.ext r := fun _ _ h => h
theorem Snap.ext_trans {a b c : Snap} (h : a.ext b) (k : b.ext c) : a.ext c := fun _ _ x => k _ _ (h _ _ x)

theorem Snap.cell_le {ro : Snap} {w : World} (h : ro.le w) {a : Addr} {v : Value} (hc : ro.cell? a = some v) : w.cell? a = some v := by
  unfold Snap.cell? at hc
  unfold World.cell?
  cases hb : ro a.block with
  | none => simp [hb] at hc
  | some o =>
    rw [h _ _ hb]
    rw [hb] at hc
    cases o <;> simp_all

theorem Snap.cell_ext {r r' : Snap} (h : r.ext r') {a : Addr} {v : Value} (hc : r.cell? a = some v) : r'.cell? a = some v := by
  unfold Snap.cell? at *
  cases hb : r a.block with
  | none => simp [hb] at hc
  | some o => rw [h _ _ hb]; rw [hb] at hc; exact hc

/-- A cell's datum, in memory that is read only. -/
inductive Rep (ro : Snap) : Leaf → Value → Prop
  | int (k : IntKind) (n : Int) (h : rngB k n = true) : Rep ro (.int k n) (.int k n)
  | bool (b : Bool) : Rep ro (.bool b) (.bool b)
  | str (b : ByteArray) (h : b.size ≤ maxLen) : Rep ro (.str (strOf b)) (.string b)
  | nil (e : EN) : Rep ro (.sl e []) (.slice none 0 0)
  | sl (e : EN) (xs : List (T e)) (a : Addr) (cap : Nat) (us : Nat → Nat → Value) (hs : a.spot = none ∨ cap = 0) (hc : xs.length ≤ cap) (hm : cap ≤ maxLen)
      (hcell : ∀ (i : Nat) (x : T e) (j : Nat) (l : Leaf), xs[i]? = some x → (cells e x)[j]? = some l → ro.cell? ⟨a.block, a.off + (i * sz e + j), none⟩ = some (us i j))
      (hrep : ∀ (i : Nat) (x : T e) (j : Nat) (l : Leaf), xs[i]? = some x → (cells e x)[j]? = some l → Rep ro l (us i j)) :
      Rep ro (.sl e xs) (.slice (some a) xs.length cap)

theorem Rep.mono {r r' : Snap} (h : r.ext r') {l : Leaf} {v : Value} (hr : Rep r l v) : Rep r' l v := by
  induction hr with
  | int k n h => exact .int k n h
  | bool b => exact .bool b
  | str b h => exact .str b h
  | nil e => exact .nil e
  | sl e xs a cap us hs hc hm hcell hrep ih =>
    exact .sl e xs a cap us hs hc hm (fun i x j l hi hj => Snap.cell_ext h (hcell i x j l hi hj)) ih

theorem Rep.oneCell {r : Snap} {l : Leaf} {v : Value} (hr : Rep r l v) : v.oneCell' = true := by
  cases hr <;> rfl

/- ---------------------------------------------------------------- symbolic values -/

/-- Where an object lies: its block (none: a nil slice), its capacity and length (in elements), an element's cells. -/
structure Hd where
  blk : Option Nat
  cap : Nat
  len : Nat
  esz : Nat

def Hd.val (h : Hd) : Value :=
  match h.blk with
  | none => .slice none 0 0
  | some g => .slice (some ⟨g, 0, none⟩) h.len h.cap

abbrev Pl := Nat → Option Hd

def Pl.ext (β β' : Pl) : Prop := ∀ id h, β id = some h → β' id = some h

theorem Pl.ext_refl (β : Pl) : β.ext β := fun _ _ h => h
theorem Pl.ext_trans {a b c : Pl} (h : a.ext b) (k : b.ext c) : a.ext c := fun _ _ x => k _ _ (h _ _ x)

inductive RepS (β : Pl) (ro : Snap) : SV → Value → Prop
  | leaf {l : Leaf} {v : Value} (h : Rep ro l v) : RepS β ro (.leaf l) v
  | lit {v : Value} (h : litOk v = true ∨ v = .tuple #[]) : RepS β ro (.lit v) v
  | own {id : Nat} {h : Hd} (hb : β id = some h) : RepS β ro (.own id) h.val
  | win {id lo len : Nat} {h : Hd} {a : Option Addr} {cap : Nat} (hb : β id = some h) (hl : lo + len ≤ h.len) (hc : len ≤ cap) (hm : cap ≤ maxLen)
      (hn : h.blk = none → a = none ∧ cap = 0)
      (hs : ∀ g, h.blk = some g → ∃ a', a = some a' ∧ lo + cap ≤ h.cap ∧ a'.spot = none ∧ (cap = 0 ∨ a' = ⟨g, lo * h.esz, none⟩)) :
      RepS β ro (.win id lo len) (.slice a len cap)
  | rptr {ls : List Leaf} {a : Addr} (us : Nat → Value) (hc : ∀ (j : Nat) (l : Leaf), ls[j]? = some l → ro.cell? ⟨a.block, a.off + j, none⟩ = some (us j))
      (hr : ∀ (j : Nat) (l : Leaf), ls[j]? = some l → Rep ro l (us j)) (hs : a.spot = none) : RepS β ro (.rptr ls) (.pointer (some a))
  | optr {id idx off : Nat} {h : Hd} {g : Nat} (hb : β id = some h) (hg : h.blk = some g) (hi : idx < h.len) :
      RepS β ro (.optr id idx off) (.pointer (some ⟨g, idx * h.esz + off, none⟩))
  | bptr {id off : Nat} {h : Hd} {g : Nat} (hb : β id = some h) (hg : h.blk = some g) :
      RepS β ro (.bptr id off) (.pointer (some ⟨g, off, none⟩))
  | fn {f : Nat} {fs cs : List SV} {us vs : List Value} (h1 : us.length = fs.length) (h2 : vs.length = cs.length)
      (h3 : ∀ (i : Nat) (c : SV) (u : Value), fs[i]? = some c → us[i]? = some u → RepS β ro c u) (h4 : ∀ (i : Nat) (c : SV) (u : Value), cs[i]? = some c → vs[i]? = some u → RepS β ro c u) :
      RepS β ro (.fn f fs cs) (.func (.func f) us.toArray vs.toArray)
  | iface {t : TypeId} {x : SV} {v : Value} (h : RepS β ro x v) : RepS β ro (.iface t x) (.iface t v)
  | agg {cs : List SV} {us : List Value} (h1 : us.length = cs.length) (h2 : ∀ (i : Nat) (c : SV) (u : Value), cs[i]? = some c → us[i]? = some u → RepS β ro c u) :
      RepS β ro (.agg cs) (.agg us.toArray)
  | tup {cs : List SV} {us : List Value} (h1 : us.length = cs.length) (h2 : ∀ (i : Nat) (c : SV) (u : Value), cs[i]? = some c → us[i]? = some u → RepS β ro c u) :
      RepS β ro (.tup cs) (.tuple us.toArray)
  | nn {e : EN} {xs : List (T e)} {a : Addr} {len cap : Nat} (h : Rep ro (.sl e xs) (.slice (some a) len cap)) : RepS β ro (.nn e xs) (.slice (some a) len cap)
  | any (v : Value) : RepS β ro .any v

theorem RepS.mono {β β' : Pl} {r r' : Snap} (hβ : β.ext β') (h : r.ext r') {x : SV} {v : Value} (hr : RepS β r x v) : RepS β' r' x v := by
  induction hr with
  | leaf h' => exact .leaf (h'.mono h)
  | lit h' => exact .lit h'
  | own hb => exact .own (hβ _ _ hb)
  | win hb hl hc hm hn hs => exact .win (hβ _ _ hb) hl hc hm hn hs
  | rptr us hc hr hs => exact .rptr us (fun j l hj => Snap.cell_ext h (hc j l hj)) (fun j l hj => (hr j l hj).mono h) hs
  | optr hb hg hi => exact .optr (hβ _ _ hb) hg hi
  | bptr hb hg => exact .bptr (hβ _ _ hb) hg
  | fn h1 h2 _ _ i3 i4 => exact .fn h1 h2 i3 i4
  | iface _ ih => exact .iface ih
  | agg h1 _ ih => exact .agg h1 ih
  | tup h1 _ ih => exact .tup h1 ih
  | nn h' => exact .nn (h'.mono h)
  | any v => exact .any v

/-- Values, one by one. -/
def RepL (β : Pl) (ro : Snap) (cs : List SV) (us : List Value) : Prop :=
  us.length = cs.length ∧ ∀ (i : Nat) (c : SV) (u : Value), cs[i]? = some c → us[i]? = some u → RepS β ro c u

theorem RepL.mono {β β' : Pl} {r r' : Snap} (hβ : β.ext β') (h : r.ext r') {cs : List SV} {us : List Value} (hr : RepL β r cs us) : RepL β' r' cs us :=
  ⟨hr.1, fun i c u hc hu => (hr.2 i c u hc hu).mono hβ h⟩

theorem RepL.nil (β : Pl) (ro : Snap) : RepL β ro [] [] := ⟨rfl, by simp⟩

theorem RepL.cons {β : Pl} {ro : Snap} {c : SV} {u : Value} {cs : List SV} {us : List Value} (h : RepS β ro c u) (t : RepL β ro cs us) : RepL β ro (c :: cs) (u :: us) := by
  refine ⟨by simp [t.1], fun i d v hd hv => ?_⟩
  cases i with
  | zero => simp at hd hv; subst hd hv; exact h
  | succ i => exact t.2 i d v (by simpa using hd) (by simpa using hv)

theorem RepL.of_cons {β : Pl} {ro : Snap} {c : SV} {cs : List SV} {us : List Value} (h : RepL β ro (c :: cs) us) :
    ∃ u us', us = u :: us' ∧ RepS β ro c u ∧ RepL β ro cs us' := by
  cases us with
  | nil => simp [RepL] at h
  | cons u us =>
    refine ⟨u, us, rfl, h.2 0 c u rfl rfl, by simpa using h.1, fun i d v hd hv => h.2 (i + 1) d v (by simpa using hd) (by simpa using hv)⟩

theorem RepL.of_nil {β : Pl} {ro : Snap} {us : List Value} (h : RepL β ro [] us) : us = [] := List.eq_nil_of_length_eq_zero (by simpa using h.1)

theorem RepL.append {β : Pl} {ro : Snap} {cs ds : List SV} {us vs : List Value} (h : RepL β ro cs us) (k : RepL β ro ds vs) : RepL β ro (cs ++ ds) (us ++ vs) := by
  induction cs generalizing us with
  | nil => rw [h.of_nil]; exact k
  | cons c cs ih =>
    obtain ⟨u, us', rfl, h1, h2⟩ := h.of_cons
    exact .cons h1 (ih h2)

theorem RepL.drop {β : Pl} {ro : Snap} {cs : List SV} {us : List Value} (h : RepL β ro cs us) (n : Nat) : RepL β ro (cs.drop n) (us.drop n) :=
  ⟨by simp [h.1], fun i c u hc hu => h.2 (n + i) c u (by simpa using hc) (by simpa using hu)⟩

theorem RepL.take {β : Pl} {ro : Snap} {cs : List SV} {us : List Value} (h : RepL β ro cs us) (n : Nat) : RepL β ro (cs.take n) (us.take n) := by
  refine ⟨by simp [h.1], fun i c u hc hu => ?_⟩
  rw [List.getElem?_take] at hc hu
  split at hc <;> simp_all
  exact h.2 i c u hc hu

theorem RepL.set {β : Pl} {ro : Snap} {cs : List SV} {us : List Value} (h : RepL β ro cs us) (n : Nat) {c : SV} {u : Value} (hc : RepS β ro c u) : RepL β ro (cs.set n c) (us.set n u) := by
  refine ⟨by simp [h.1], fun i d v hd hv => ?_⟩
  rw [List.getElem?_set] at hd hv
  by_cases hi : n = i
  · subst hi
    simp only [if_true] at hd hv
    split at hd <;> split at hv <;> simp_all
  · simp only [hi, if_false] at hd hv
    exact h.2 i d v hd hv

/- ---------------------------------------------------------------- objects -/

/-- What is there when a call begins. -/
def oldOf (w : World) : Snap := fun b => w.heap[b]?

/-- The streams are as they were, and no block has gone. -/
structure Base (w w' : World) : Prop where
  os : w'.os = w.os
  tape : w'.tape = w.tape
  output : w'.output = w.output
  size : w.heap.size ≤ w'.heap.size

theorem Base.refl (w : World) : Base w w := ⟨rfl, rfl, rfl, Nat.le_refl _⟩
theorem Base.trans {a b c : World} (h : Base a b) (k : Base b c) : Base a c := ⟨k.os.trans h.os, k.tape.trans h.tape, k.output.trans h.output, Nat.le_trans h.size k.size⟩

def ObjAt (β : Pl) (ro : Snap) (w : World) (h : Hd) : SO → Prop
  | .row et e xs => h.esz = sz e ∧ xs.length = h.len ∧
    match h.blk with
    | none => h.len = 0
    | some g => ∃ cur, w.heap[g]? = some (.cells cur et (0, 0)) ∧ h.len ≤ h.cap ∧ h.cap ≤ maxLen ∧ cur.size = h.cap * sz e ∧
        ∀ (i : Nat) (x : T e) (j : Nat) (l : Leaf), xs[i]? = some x → (cells e x)[j]? = some l → ∃ u, cur[i * sz e + j]? = some u ∧ Rep ro l u
  | .blk cs => ∃ g cur et, h.blk = some g ∧ w.heap[g]? = some (.cells cur et (0, 0)) ∧ RepL β ro cs cur.toList

theorem ObjAt.mono {β β' : Pl} {ro ro' : Snap} {w w' : World} {h : Hd} {o : SO} (hβ : β.ext β') (hr : ro.ext ro') (hw : ∀ g, h.blk = some g → w'.heap[g]? = w.heap[g]?)
    (ho : ObjAt β ro w h o) : ObjAt β' ro' w' h o := by
  cases o with
  | row et e xs =>
    obtain ⟨h1, h2, h3⟩ := ho
    refine ⟨h1, h2, ?_⟩
    cases hb : h.blk with
    | none => simpa [hb] using h3
    | some g =>
      simp only [hb] at h3 ⊢
      obtain ⟨cur, k1, k2, k3, k4, k5⟩ := h3
      refine ⟨cur, by rw [hw g hb]; exact k1, k2, k3, k4, fun i x j l hi hj => ?_⟩
      obtain ⟨u, hu, hru⟩ := k5 i x j l hi hj
      exact ⟨u, hu, hru.mono hr⟩
  | blk cs =>
    obtain ⟨g, cur, et, h1, h2, h3⟩ := ho
    exact ⟨g, cur, et, h1, by rw [hw g h1]; exact h2, h3.mono hβ hr⟩

/-- Where a function began: the world, and what was read only. -/
structure Pt extends World where
  ro0 : Snap
  defs : List Deferred := []

structure HSat (w0 : Pt) (β : Pl) (ro : Snap) (D : Nat → Prop) (objs : Heap) (w : World) : Prop where
  base : Base w0.toWorld w
  low : ∀ b, b < w0.heap.size → ro b = w0.ro0 b
  old : ∀ k, k < w0.heap.size → w.heap[k]? = w0.heap[k]?
  snap : ro.le w
  dom : ∀ id h, β id = some h → D id
  lt : ∀ id h g, β id = some h → h.blk = some g → g < w.heap.size
  obj : ∀ id o, objs id = some o → ∃ h, β id = some h ∧ ObjAt β ro w h o
  apart : ∀ id o h g, objs id = some o → β id = some h → h.blk = some g → ro g = none
  above : ∀ id o h g, objs id = some o → β id = some h → h.blk = some g → w0.heap.size ≤ g
  inj : ∀ id id' o o' h h' g, objs id = some o → objs id' = some o' → β id = some h → β id' = some h' → h.blk = some g → h'.blk = some g → id = id'

/-- What is deferred is told beside it. -/
theorem HSat.defs {w0 : Pt} {β : Pl} {ro : Snap} {D : Nat → Prop} {objs : Heap} {w : World} (h : HSat w0 β ro D objs w) (d : List Deferred) : HSat { w0 with defs := d } β ro D objs w :=
  ⟨h.base, h.low, h.old, h.snap, h.dom, h.lt, h.obj, h.apart, h.above, h.inj⟩
theorem HSat.undefs {w0 : Pt} {β : Pl} {ro : Snap} {D : Nat → Prop} {objs : Heap} {w : World} {d : List Deferred} (h : HSat { w0 with defs := d } β ro D objs w) : HSat w0 β ro D objs w :=
  ⟨h.base, h.low, h.old, h.snap, h.dom, h.lt, h.obj, h.apart, h.above, h.inj⟩

/-- Fewer objects. -/
theorem HSat.less {w0 : Pt} {β : Pl} {ro : Snap} {D D' : Nat → Prop} {objs objs' : Heap} {w : World} (h : HSat w0 β ro D objs w)
    (ho : ∀ id o, objs' id = some o → objs id = some o) (hD : ∀ id, D id → D' id) : HSat w0 β ro D' objs' w :=
  ⟨h.base, h.low, h.old, h.snap, fun id hh hb => hD _ (h.dom id hh hb), h.lt, fun id o hi => h.obj id o (ho _ _ hi), fun id o hh g hi => h.apart id o hh g (ho _ _ hi), fun id o hh g hi => h.above id o hh g (ho _ _ hi),
    fun id id' o o' hh hh' g h1 h2 => h.inj id id' o o' hh hh' g (ho _ _ h1) (ho _ _ h2)⟩

/-- A draw turns nothing. -/
theorem HSat.drew {w0 : Pt} {β : Pl} {ro : Snap} {D : Nat → Prop} {objs : Heap} {w : World} (h : HSat w0 β ro D objs w) : HSat w0 β ro D objs { w with drawn := w.drawn + 1 } :=
  ⟨⟨h.base.os, h.base.tape, h.base.output, h.base.size⟩, h.low, h.old, h.snap, h.dom, h.lt, h.obj, h.apart, h.above, h.inj⟩

/-- What an operation comes to. -/
def Goes (w0 : Pt) (β : Pl) (ro : Snap) (D : Nat → Prop) (objs : Heap) (v : SV) (r : Result Value) : Prop :=
  ∃ u w' β' ro', r = .ok u w' ∧ RepS β' ro' v u ∧ β.ext β' ∧ ro.ext ro' ∧ HSat w0 β' ro' D objs w'

theorem Goes.pure {w0 : Pt} {β : Pl} {ro : Snap} {D D' : Nat → Prop} {objs : Heap} {w : World} {v : SV} {u : Value} (h : HSat w0 β ro D objs w) (hD : ∀ id, D id → D' id)
    (hv : RepS β ro v u) : Goes w0 β ro D' objs v (.ok u w) :=
  ⟨u, w, β, ro, rfl, hv, β.ext_refl, ro.ext_refl, h.less (fun _ _ h => h) hD⟩

/- what is taken in is read only from then on -/
open Classical in
noncomputable def Snap.plus (ro : Snap) (β : Pl) (w : World) (is : List Nat) : Snap :=
  fun b => if ∃ id ∈ is, ∃ h, β id = some h ∧ h.blk = some b then w.heap[b]? else ro b

theorem Snap.ext_plus {ro : Snap} {w : World} (h : ro.le w) (β : Pl) (is : List Nat) : ro.ext (ro.plus β w is) := by
  intro b o hb
  unfold Snap.plus
  split
  · exact h _ _ hb
  · exact hb

theorem Snap.plus_le {ro : Snap} {w : World} (h : ro.le w) (β : Pl) (is : List Nat) : (ro.plus β w is).le w := by
  intro b o hb
  unfold Snap.plus at hb
  split at hb
  · exact hb
  · exact h _ _ hb

theorem Snap.plus_mono {ro : Snap} {w : World} (h : ro.le w) (β : Pl) {is js : List Nat} (hij : ∀ i ∈ is, i ∈ js) : (ro.plus β w is).ext (ro.plus β w js) := by
  intro b o hb
  unfold Snap.plus at *
  by_cases h1 : ∃ id ∈ is, ∃ h, β id = some h ∧ h.blk = some b
  · obtain ⟨id, hi, hh⟩ := h1
    rw [if_pos ⟨id, hi, hh⟩] at hb
    rw [if_pos ⟨id, hij _ hi, hh⟩]
    exact hb
  · rw [if_neg h1] at hb
    split
    · exact h _ _ hb
    · exact hb

theorem putH_same (h : Heap) (id : Nat) (o : Option SO) : putH h id o id = o := by simp [putH]
theorem putH_other (h : Heap) {id i : Nat} (o : Option SO) (hi : i ≠ id) : putH h id o i = h i := by
  unfold putH
  cases hb : Nat.beq i id with
  | false => rfl
  | true => exact absurd (Nat.eq_of_beq_eq_true hb) hi

theorem putAll_other : ∀ (u : List (Nat × Option SO)) (h : Heap) (i : Nat), (∀ p ∈ u, p.1 ≠ i) → putAll h u i = h i
  | [], _, _, _ => rfl
  | (j, o) :: r, h, i, hi => by
    simp only [putAll]
    rw [putAll_other r _ i (fun p hp => hi p (List.mem_cons_of_mem _ hp)), putH_other h o (fun e => hi (j, o) List.mem_cons_self e.symm)]

theorem putAll_freeze : ∀ (is : List Nat) (h : Heap) (i : Nat), putAll h (freezeAll is) i = if i ∈ is then none else h i
  | [], _, _ => by simp [freezeAll, putAll]
  | j :: r, h, i => by
    have ih := putAll_freeze r (putH h j none) i
    simp only [freezeAll, List.map_cons, putAll] at ih ⊢
    rw [ih]
    by_cases h1 : i ∈ r
    · simp [h1]
    · by_cases h2 : i = j
      · subst h2; simp [h1, putH_same]
      · simp [h1, h2, putH_other]

theorem putAll_append : ∀ (u v : List (Nat × Option SO)) (h : Heap), putAll h (u ++ v) = putAll (putAll h u) v
  | [], _, _ => rfl
  | (i, o) :: r, v, h => by simp only [List.cons_append, putAll]; exact putAll_append r v _

theorem HSat.freeze {w0 : Pt} {β : Pl} {ro : Snap} {D : Nat → Prop} {objs : Heap} {w : World} (h : HSat w0 β ro D objs w) (is : List Nat) (his : ∀ i ∈ is, (objs i).isSome) :
    HSat w0 β (ro.plus β w is) D (putAll objs (freezeAll is)) w := by
  have hx := Snap.ext_plus h.snap β is
  have hold : ∀ id o, putAll objs (freezeAll is) id = some o → id ∉ is ∧ objs id = some o := by
    intro id o hi
    rw [putAll_freeze] at hi
    split at hi
    · cases hi
    · rename_i hn; exact ⟨hn, hi⟩
  refine ⟨h.base, fun b hb => ?_, h.old, Snap.plus_le h.snap β is, h.dom, h.lt, fun id o hi => ?_, fun id o hh g hi hb hg => ?_, fun id o hh g hi => h.above id o hh g (hold _ _ hi).2, fun id id' o o' hh hh' g h1 h2 => h.inj id id' o o' hh hh' g (hold _ _ h1).2 (hold _ _ h2).2⟩
  · unfold Snap.plus
    rw [if_neg]
    · exact h.low b hb
    · rintro ⟨id, hm, hh, hb', hg⟩
      obtain ⟨o, ho⟩ := Option.isSome_iff_exists.1 (his id hm)
      have := h.above id o hh b ho hb' hg
      omega
  · obtain ⟨hh, hb, ho⟩ := h.obj id o (hold _ _ hi).2
    exact ⟨hh, hb, ho.mono β.ext_refl hx (fun _ _ => rfl)⟩
  · have hi' := hold _ _ hi
    unfold Snap.plus
    rw [if_neg]
    · exact h.apart id o hh g hi'.2 hb hg
    · rintro ⟨id', hm, hh', hb', hg'⟩
      obtain ⟨o', ho'⟩ := Option.isSome_iff_exists.1 (his id' hm)
      exact hi'.1 (h.inj id' id o' o hh' hh g ho' hi'.2 hb' hb hg' hg ▸ hm)

end Go.Cat

namespace Go.Cat
open Go

variable {w0 : Pt} {β : Pl} {ro : Snap} {D : Nat → Prop} {objs : Heap} {w : World}

theorem castT_self {e : EN} (h : e = e) (xs : List (T e)) : castT h xs = xs := rfl

/- ---------------------------------------------------------------- one leaf -/

def leafOf (H : Heap) (k : LK) (v : SV) : Option (Leaf × List Nat) :=
  match k with
  | .int k => match asI v with | some (k', n, _) => if k' = k then some (.int k n, []) else none | none => none
  | .bool => match asB v with | some (b, _) => some (.bool b, []) | none => none
  | .str => match asS v with | some s => some (.str s, []) | none => none
  | .sl e => match v with
    | .leaf (.sl e' xs) => if e' = e then some (.sl e' xs, []) else none
    | .lit (.slice none 0 0) => some (.sl e [], [])
    | .own id => match H id with
      | some (.row _ e' xs) => if e' = e then some (.sl e' xs, [id]) else none
      | _ => none
    | .win id lo len => match H id with
      | some (.row _ e' xs) => if e' = e then some (.sl e' ((xs.drop lo).take len), [id]) else none
      | _ => none
    | _ => none

theorem toLeaf_run {A : Type} {H : Heap} {k : LK} {v : SV} {f : Leaf → List Nat → OT A} {rs : List Nat} {r : A × List Nat}
    (h : (toLeaf k v f).run H rs = some r) : ∃ l is rs', leafOf H k v = some (l, is) ∧ (f l is).run H rs' = some r := by
  unfold toLeaf at h
  unfold leafOf
  cases k with
  | int k =>
    simp only at h ⊢
    cases hi : asI v with
    | none => simp [hi, OT.run] at h
    | some p =>
      obtain ⟨k', n, b⟩ := p
      simp only [hi] at h ⊢
      split at h
      · rename_i hk; exact ⟨_, _, _, by simp [hk], h⟩
      · simp [OT.run] at h
  | bool =>
    simp only at h ⊢
    cases hi : asB v with
    | none => simp [hi, OT.run] at h
    | some p => simp only [hi] at h ⊢; exact ⟨_, _, _, rfl, h⟩
  | str =>
    simp only at h ⊢
    cases hi : asS v with
    | none => simp [hi, OT.run] at h
    | some p => simp only [hi] at h ⊢; exact ⟨_, _, _, rfl, h⟩
  | sl e =>
    simp only at h ⊢
    split at h
    · rename_i e' xs
      split at h
      · rename_i hk; exact ⟨_, _, _, by simp [hk], h⟩
      · simp [OT.run] at h
    · exact ⟨_, _, _, rfl, h⟩
    · rename_i id
      simp only [OT.run] at h ⊢
      cases hH : H id with
      | none => simp [hH, OT.run] at h
      | some o =>
        cases o with
        | blk cs => simp [hH, OT.run] at h
        | row et e' xs =>
          simp only [hH] at h ⊢
          split at h
          · rename_i hk; exact ⟨_, _, _, by simp [hk], h⟩
          · simp [OT.run] at h
    · rename_i id lo len
      simp only [OT.run] at h ⊢
      cases hH : H id with
      | none => simp [hH, OT.run] at h
      | some o =>
        cases o with
        | blk cs => simp [hH, OT.run] at h
        | row et e' xs =>
          simp only [hH] at h ⊢
          split at h
          · rename_i hk; exact ⟨_, _, _, by simp [hk], h⟩
          · simp [OT.run] at h
    · simp [OT.run] at h

theorem plus_cell {id : Nat} {h : Hd} {g : Nat} {cur : Array Value} {et : TypeId} {is : List Nat} (hm : id ∈ is) (hb : β id = some h) (hg : h.blk = some g)
    (hw : w.heap[g]? = some (.cells cur et (0, 0))) (j : Nat) : (ro.plus β w is).cell? ⟨g, j, none⟩ = cur[j]? := by
  unfold Snap.cell? Snap.plus
  rw [if_pos ⟨id, hm, h, hb, hg⟩, hw]
  simp

/-- A window of a row, as data. -/
theorem win_rep (hs : HSat w0 β ro D objs w) {id lo len et : Nat} {e : EN} {xs : List (T e)} {h : Hd} (ho : objs id = some (.row et e xs)) (hb : β id = some h)
    {is : List Nat} (hm : id ∈ is) (hl : lo + len ≤ h.len) {a : Option Addr} {cap : Nat} (hc : len ≤ cap) (hcm : cap ≤ maxLen)
    (hn : h.blk = none → a = none ∧ cap = 0)
    (hsm : ∀ g, h.blk = some g → ∃ a', a = some a' ∧ lo + cap ≤ h.cap ∧ a'.spot = none ∧ (cap = 0 ∨ a' = ⟨g, lo * h.esz, none⟩)) :
    Rep (ro.plus β w is) (.sl e ((xs.drop lo).take len)) (.slice a len cap) := by
  obtain ⟨h', hb', h1, h2, h3⟩ := hs.obj id _ ho
  rw [hb] at hb'; cases hb'
  have hlen : ((xs.drop lo).take len).length = len := by simp; omega
  cases hblk : h.blk with
  | none =>
    obtain ⟨rfl, rfl⟩ := hn hblk
    have h0 : len = 0 := by omega
    subst h0
    simp only [List.take_zero]
    exact .nil e
  | some g =>
    simp only [hblk] at h3
    obtain ⟨cur, k1, k2, k3, k4, k5⟩ := h3
    obtain ⟨a', rfl, m1, m2, m3⟩ := hsm g hblk
    have key := Rep.sl (ro := ro.plus β w is) e ((xs.drop lo).take len) a' cap (fun i j => (cur[(lo + i) * sz e + j]?).getD default) (.inl m2) (by omega) hcm ?_ ?_
    · rw [hlen] at key; exact key
    · intro i x j l hi hj
      have hi' : i < len := by
        have := (List.getElem?_eq_some_iff.1 hi).1
        omega
      have hx : xs[lo + i]? = some x := by
        rw [List.getElem?_take] at hi
        simpa [hi'] using hi
      obtain ⟨u, hu, hr⟩ := k5 _ _ _ _ hx hj
      have ha : a' = ⟨g, lo * h.esz, none⟩ := m3.resolve_left (by omega)
      subst ha
      simp only [hu, Option.getD_some]
      rw [show lo * h.esz + (i * sz e + j) = (lo + i) * sz e + j from by rw [h1, Nat.add_mul]; omega, plus_cell hm hb hblk k1]
      exact hu
    · intro i x j l hi hj
      have hi' : i < len := by
        have := (List.getElem?_eq_some_iff.1 hi).1
        omega
      have hx : xs[lo + i]? = some x := by
        rw [List.getElem?_take] at hi
        simpa [hi'] using hi
      obtain ⟨u, hu, hr⟩ := k5 _ _ _ _ hx hj
      simp only [hu, Option.getD_some]
      exact hr.mono (Snap.ext_plus hs.snap β is)

/-- A whole row, as data. -/
theorem own_rep (hs : HSat w0 β ro D objs w) {id et : Nat} {e : EN} {xs : List (T e)} {h : Hd} (ho : objs id = some (.row et e xs)) (hb : β id = some h)
    {is : List Nat} (hm : id ∈ is) : Rep (ro.plus β w is) (.sl e xs) h.val := by
  obtain ⟨h', hb', h1, h2, h3⟩ := hs.obj id _ ho
  rw [hb] at hb'; cases hb'
  cases hblk : h.blk with
  | none =>
    simp only [hblk] at h3
    have : xs = [] := List.eq_nil_of_length_eq_zero (by omega)
    subst this
    simp only [Hd.val, hblk]
    exact .nil e
  | some g =>
    simp only [hblk] at h3
    obtain ⟨cur, k1, k2, k3, k4, k5⟩ := h3
    have key := win_rep (is := is) hs ho hb hm (lo := 0) (len := h.len) (a := some ⟨g, 0, none⟩) (cap := h.cap) (by omega) k2 k3 (by simp [hblk])
      (fun g' hg' => ⟨_, rfl, by omega, rfl, .inr (by rw [hblk] at hg'; cases hg'; simp)⟩)
    simp only [List.drop_zero] at key
    rw [← h2, List.take_length, h2] at key
    simpa [Hd.val, hblk] using key

theorem asI_rep {v : SV} {k : IntKind} {n : Int} {b : Bool} (h : asI v = some (k, n, b)) {u : Value} (hv : RepS β ro v u) : u = .int k n ∧ rngB k n = true := by
  unfold asI at h
  split at h
  · cases h
    cases hv with
    | lit h' => exact ⟨rfl, by simpa [litOk] using h'⟩
  · cases h
    cases hv with
    | leaf h' => cases h' with | int k n hr => exact ⟨rfl, hr⟩
  · cases h

theorem asB_rep {v : SV} {c b : Bool} (h : asB v = some (c, b)) {u : Value} (hv : RepS β ro v u) : u = .bool c := by
  unfold asB at h
  split at h
  · cases h; cases hv with | lit h' => rfl
  · cases h; cases hv with | leaf h' => cases h' with | bool b => rfl
  · cases h

theorem asS_rep {v : SV} {s : List Int} (h : asS v = some s) {u : Value} (hv : RepS β ro v u) : ∃ b, u = .string b ∧ strOf b = s ∧ b.size ≤ maxLen := by
  unfold asS at h
  split at h
  · cases h
    cases hv with
    | lit h' => exact ⟨_, rfl, rfl, by simpa [litOk, maxLen] using h'⟩
  · cases h
    cases hv with
    | leaf h' => cases h' with | str b hb => exact ⟨b, rfl, rfl, hb⟩
  · cases h

theorem leafOf_rep (hs : HSat w0 β ro D objs w) {k : LK} {v : SV} {l : Leaf} {is : List Nat} (h : leafOf objs k v = some (l, is)) {u : Value} (hv : RepS β ro v u) :
    (∀ i ∈ is, (objs i).isSome) ∧ ∀ js, (∀ i ∈ is, i ∈ js) → Rep (ro.plus β w js) l u := by
  unfold leafOf at h
  have hx : ∀ js, ro.ext (ro.plus β w js) := fun js => Snap.ext_plus hs.snap β js
  cases k with
  | int k =>
    simp only at h
    cases hi : asI v with
    | none => simp [hi] at h
    | some p =>
      obtain ⟨k', n, b⟩ := p
      simp only [hi] at h
      split at h
      · rename_i hk; subst hk; cases h
        obtain ⟨rfl, hr⟩ := asI_rep hi hv
        exact ⟨by simp, fun _ _ => .int _ _ hr⟩
      · cases h
  | bool =>
    simp only at h
    cases hi : asB v with
    | none => simp [hi] at h
    | some p => simp only [hi] at h; cases h; rw [asB_rep hi hv]; exact ⟨by simp, fun _ _ => .bool _⟩
  | str =>
    simp only at h
    cases hi : asS v with
    | none => simp [hi] at h
    | some p => simp only [hi] at h; cases h; obtain ⟨b, rfl, rfl, hb⟩ := asS_rep hi hv; exact ⟨by simp, fun _ _ => .str b hb⟩
  | sl e =>
    simp only at h
    split at h
    · split at h
      · cases h
        cases hv with
        | leaf h' => exact ⟨by simp, fun js _ => h'.mono (hx js)⟩
      · cases h
    · cases h
      cases hv with
      | lit h' => exact ⟨by simp, fun _ _ => .nil e⟩
    · rename_i id
      split at h
      · rename_i et e' xs ho
        split at h
        · cases h
          cases hv with
          | own hb => exact ⟨by simp [ho], fun js hj => own_rep hs ho hb (hj id (by simp))⟩
        · cases h
      · cases h
    · rename_i id lo len
      split at h
      · rename_i et e' xs ho
        split at h
        · cases h
          cases hv with
          | win hb hl hc hm hn hsm => exact ⟨by simp [ho], fun js hj => win_rep hs ho hb (hj id (by simp)) hl hc hm hn hsm⟩
        · cases h
      · cases h
    · cases h

/- ---------------------------------------------------------------- leaves, data -/

def leavesOf (H : Heap) : List LK → List SV → Option (List Leaf × List Nat)
  | [], [] => some ([], [])
  | k :: ks, v :: vs => match leafOf H k v, leavesOf H ks vs with
    | some (l, i), some (ls, is) => some (l :: ls, i ++ is)
    | _, _ => none
  | _, _ => none

theorem toLeaves_run {A : Type} {H : Heap} : ∀ {ks : List LK} {vs : List SV} {f : List Leaf → List Nat → OT A} {rs : List Nat} {r : A × List Nat},
    (toLeaves ks vs f).run H rs = some r → ∃ ls is rs', leavesOf H ks vs = some (ls, is) ∧ (f ls is).run H rs' = some r
  | [], [], _, _, _, h => ⟨[], [], _, rfl, h⟩
  | k :: ks, v :: vs, f, rs, r, h => by
    simp only [toLeaves] at h
    obtain ⟨l, i, rs', h1, h2⟩ := toLeaf_run h
    obtain ⟨ls, is, rs'', h3, h4⟩ := toLeaves_run h2
    exact ⟨_, _, _, by simp [leavesOf, h1, h3], h4⟩
  | [], _ :: _, _, _, _, h => by simp [toLeaves, OT.run] at h
  | _ :: _, [], _, _, _, h => by simp [toLeaves, OT.run] at h

/-- Leaves and values, one by one. -/
def RepC (ro : Snap) (ls : List Leaf) (us : List Value) : Prop := us.length = ls.length ∧ ∀ (j : Nat) (l : Leaf) (v : Value), ls[j]? = some l → us[j]? = some v → Rep ro l v

theorem RepC.nil (ro : Snap) : RepC ro [] [] := ⟨rfl, by simp⟩

theorem RepC.cons {l : Leaf} {u : Value} {ls : List Leaf} {us : List Value} (h : Rep ro l u) (t : RepC ro ls us) : RepC ro (l :: ls) (u :: us) := by
  refine ⟨by simp [t.1], fun i d v hd hv => ?_⟩
  cases i with
  | zero => simp at hd hv; subst hd hv; exact h
  | succ i => exact t.2 i d v (by simpa using hd) (by simpa using hv)

theorem RepC.mono {r r' : Snap} (h : r.ext r') {ls : List Leaf} {us : List Value} (hr : RepC r ls us) : RepC r' ls us :=
  ⟨hr.1, fun j l v hl hv => (hr.2 j l v hl hv).mono h⟩

theorem RepC.toL {ls : List Leaf} {us : List Value} (h : RepC ro ls us) : RepL β ro (ls.map .leaf) us := by
  refine ⟨by simpa using h.1, fun i c u hc hu => ?_⟩
  rw [List.getElem?_map] at hc
  cases hl : ls[i]? with
  | none => simp [hl] at hc
  | some l => simp [hl] at hc; subst hc; exact .leaf (h.2 i l u hl hu)

theorem leavesOf_rep (hs : HSat w0 β ro D objs w) : ∀ {ks : List LK} {vs : List SV} {ls : List Leaf} {is : List Nat} {us : List Value},
    leavesOf objs ks vs = some (ls, is) → RepL β ro vs us → (∀ i ∈ is, (objs i).isSome) ∧ ∀ js, (∀ i ∈ is, i ∈ js) → RepC (ro.plus β w js) ls us
  | [], [], ls, is, us, h, hr => by
    cases h; rw [hr.of_nil]; exact ⟨by simp, fun _ _ => .nil _⟩
  | k :: ks, v :: vs, ls, is, us, h, hr => by
    obtain ⟨u, us', rfl, h1, h2⟩ := hr.of_cons
    simp only [leavesOf] at h
    cases hl : leafOf objs k v with
    | none => simp [hl] at h
    | some p =>
      obtain ⟨l, i⟩ := p
      cases hq : leavesOf objs ks vs with
      | none => simp [hl, hq] at h
      | some q =>
        obtain ⟨ls', is'⟩ := q
        simp only [hl, hq] at h
        cases h
        obtain ⟨a1, a2⟩ := leafOf_rep hs hl h1
        obtain ⟨b1, b2⟩ := leavesOf_rep hs hq h2
        refine ⟨fun x hx => (List.mem_append.1 hx).elim (a1 x) (b1 x), fun js hj => .cons (a2 js fun x hx => hj x (List.mem_append_left _ hx)) (b2 js fun x hx => hj x (List.mem_append_right _ hx))⟩
  | [], _ :: _, _, _, _, h, _ => by simp [leavesOf] at h
  | _ :: _, [], _, _, _, h, _ => by simp [leavesOf] at h

/-- A value that is data. -/
def RepT (ro : Snap) (e : EN) (x : T e) (u : Value) : Prop := RepC ro (cells e x) u.cells.toList ∧ (isAggE e = true ↔ ∃ cs, u = .agg cs)

theorem RepT.mono {r r' : Snap} (h : r.ext r') {e : EN} {x : T e} {u : Value} (hr : RepT r e x u) : RepT r' e x u := ⟨hr.1.mono h, hr.2⟩

def tOf (H : Heap) (e : EN) (v : SV) : Option (T e × List Nat) :=
  match aggSV v == isAggE e with
  | true => match leavesOf H (kinds e) v.cells with
    | some (ls, is) => match ofCells e ls with
      | some x => some (x, is)
      | none => none
    | none => none
  | false => none

theorem toT_run {A : Type} {H : Heap} {e : EN} {v : SV} {f : T e → List Nat → OT A} {rs : List Nat} {r : A × List Nat} (h : (toT e v f).run H rs = some r) :
    ∃ x is rs', tOf H e v = some (x, is) ∧ (f x is).run H rs' = some r := by
  unfold toT at h
  cases ha : aggSV v == isAggE e with
  | false => simp [ha, OT.run] at h
  | true =>
    simp only [ha] at h
    obtain ⟨ls, is, rs', h1, h2⟩ := toLeaves_run h
    cases hx : ofCells e ls with
    | none => simp [hx, onSome, OT.run] at h2
    | some x => simp only [hx, onSome] at h2; exact ⟨x, is, rs', by simp [tOf, ha, h1, hx], h2⟩

theorem cells_rep {v : SV} {u : Value} (hv : RepS β ro v u) (hany : v ≠ .any) : RepL β ro v.cells u.cells.toList ∧ (aggSV v = true ↔ ∃ cs, u = .agg cs) := by
  have one : ∀ {v : SV} {u : Value}, RepS β ro v u → u.cells = #[u] → v.cells = [v] → RepL β ro v.cells u.cells.toList := by
    intro v u h h1 h2
    rw [h1, h2]
    exact .cons h (.nil _ _)
  cases hv with
  | leaf h => exact ⟨one (.leaf h) (by cases h <;> rfl) rfl, by cases h <;> simp [aggSV]⟩
  | lit h =>
    have this : ∀ cs, u ≠ .agg cs := by rintro cs rfl; simp [litOk] at h
    refine ⟨one (.lit h) ?_ rfl, by simp [aggSV]; exact fun x hx => this x hx⟩
    cases u <;> first | rfl | exact absurd rfl (this _)
  | own hb => refine ⟨one (.own hb) ?_ rfl, ?_⟩ <;> unfold Hd.val <;> split <;> simp [aggSV, Value.cells]
  | win hb hl hc hm hn hs => exact ⟨one (.win hb hl hc hm hn hs) rfl rfl, by simp [aggSV]⟩
  | rptr us h1 h2 h3 => exact ⟨one (.rptr us h1 h2 h3) rfl rfl, by simp [aggSV]⟩
  | optr hb hg hi => exact ⟨one (.optr hb hg hi) rfl rfl, by simp [aggSV]⟩
  | bptr hb hg => exact ⟨one (.bptr hb hg) rfl rfl, by simp [aggSV]⟩
  | fn h1 h2 h3 h4 => exact ⟨one (.fn h1 h2 h3 h4) rfl rfl, by simp [aggSV]⟩
  | iface h => exact ⟨one (.iface h) rfl rfl, by simp [aggSV]⟩
  | @agg cs us h1 h2 => exact ⟨⟨by simpa [SV.cells, Value.cells] using h1, by simpa [SV.cells, Value.cells] using h2⟩, by simp [aggSV]⟩
  | tup h1 h2 => exact ⟨one (.tup h1 h2) rfl rfl, by simp [aggSV]⟩
  | nn h => exact ⟨one (.nn h) rfl rfl, by simp [aggSV]⟩
  | any v => exact absurd rfl hany

theorem tOf_rep (hs : HSat w0 β ro D objs w) {e : EN} {v : SV} {x : T e} {is : List Nat} (h : tOf objs e v = some (x, is)) {u : Value} (hv : RepS β ro v u) :
    (∀ i ∈ is, (objs i).isSome) ∧ ∀ js, (∀ i ∈ is, i ∈ js) → RepT (ro.plus β w js) e x u := by
  unfold tOf at h
  cases ha : aggSV v == isAggE e with
  | false => simp [ha] at h
  | true =>
    simp only [ha] at h
    have hne : v ≠ .any := by
      rintro rfl
      cases hk : kinds e with
      | nil => cases e <;> simp [kinds] at hk; rename_i s; cases s <;> simp [stKinds] at hk
      | cons k ks =>
        have : leafOf objs k .any = none := by cases k <;> rfl
        simp [SV.cells, hk, leavesOf, this] at h
    obtain ⟨hc, hag⟩ := cells_rep hv hne
    cases hl : leavesOf objs (kinds e) v.cells with
    | none => simp [hl] at h
    | some p =>
      obtain ⟨ls, is'⟩ := p
      simp only [hl] at h
      cases hx : ofCells e ls with
      | none => simp [hx] at h
      | some y =>
        simp only [hx] at h
        cases h
        obtain ⟨a1, a2⟩ := leavesOf_rep hs hl hc
        refine ⟨a1, fun js hj => ⟨?_, ?_⟩⟩
        · rw [ofCells_cells e ls x hx]; exact a2 js hj
        · rw [← eq_of_beq ha]; exact hag

/-- Data as a symbolic value. -/
theorem datSV_rep {e : EN} {x : T e} {u : Value} (h : RepT ro e x u) : RepS β ro (datSV e x) u := by
  obtain ⟨hc, ha⟩ := h
  have hL := RepC.toL (β := β) hc
  unfold datSV mkVal
  cases hag : isAggE e with
  | true =>
    obtain ⟨cs, rfl⟩ := ha.1 hag
    simp only
    have := RepS.agg (us := cs.toList) hL.1 hL.2
    simpa [Value.cells] using this
  | false =>
    have hn : ¬ ∃ cs, u = .agg cs := fun hh => by rw [ha.2 hh] at hag; cases hag
    have hu : u.cells.toList = [u] := by cases u <;> first | rfl | exact absurd ⟨_, rfl⟩ hn
    rw [hu] at hL
    cases hm : (cells e x).map SV.leaf with
    | nil => rw [hm] at hL; simp [RepL] at hL
    | cons c r =>
      rw [hm] at hL
      cases r with
      | nil => exact hL.2 0 c u rfl rfl
      | cons d r => simp [RepL] at hL

/- ---------------------------------------------------------------- tuples, lists of elements -/

def RepTT (ro : Snap) : (es : List EN) → TT es → List Value → Prop
  | [], _, us => us = []
  | e :: es, x, us => ∃ u us', us = u :: us' ∧ RepT ro e x.1 u ∧ RepTT ro es x.2 us'

theorem RepTT.mono {r r' : Snap} (h : r.ext r') : ∀ {es : List EN} {x : TT es} {us : List Value}, RepTT r es x us → RepTT r' es x us
  | [], _, _, hr => hr
  | _ :: _, _, _, ⟨u, us', hu, hx, ht⟩ => ⟨u, us', hu, hx.mono h, RepTT.mono h ht⟩

def ttOf (H : Heap) : (es : List EN) → List SV → Option (TT es × List Nat)
  | [], [] => some ((), [])
  | e :: es, v :: vs => match tOf H e v, ttOf H es vs with
    | some (x, i), some (xs, is) => some ((x, xs), i ++ is)
    | _, _ => none
  | _, _ => none

theorem toTT_run {A : Type} {H : Heap} : ∀ {es : List EN} {vs : List SV} {f : TT es → List Nat → OT A} {rs : List Nat} {r : A × List Nat},
    (toTT es vs f).run H rs = some r → ∃ x is rs', ttOf H es vs = some (x, is) ∧ (f x is).run H rs' = some r
  | [], [], _, _, _, h => ⟨(), [], _, rfl, h⟩
  | e :: es, v :: vs, f, rs, r, h => by
    simp only [toTT] at h
    obtain ⟨x, i, rs', h1, h2⟩ := toT_run h
    obtain ⟨xs, is, rs'', h3, h4⟩ := toTT_run (es := es) h2
    exact ⟨(x, xs), i ++ is, rs'', by simp [ttOf, h1, h3], h4⟩
  | [], _ :: _, _, _, _, h => by simp [toTT, OT.run] at h
  | _ :: _, [], _, _, _, h => by simp [toTT, OT.run] at h

theorem ttOf_rep (hs : HSat w0 β ro D objs w) : ∀ {es : List EN} {vs : List SV} {x : TT es} {is : List Nat} {us : List Value},
    ttOf objs es vs = some (x, is) → RepL β ro vs us → (∀ i ∈ is, (objs i).isSome) ∧ ∀ js, (∀ i ∈ is, i ∈ js) → RepTT (ro.plus β w js) es x us
  | [], [], _, is, us, h, hr => by cases h; exact ⟨by simp, fun _ _ => hr.of_nil⟩
  | e :: es, v :: vs, x, is, us, h, hr => by
    obtain ⟨u, us', rfl, h1, h2⟩ := hr.of_cons
    simp only [ttOf] at h
    cases hl : tOf objs e v with
    | none => simp [hl] at h
    | some p =>
      obtain ⟨y, i⟩ := p
      cases hq : ttOf objs es vs with
      | none => simp [hl, hq] at h
      | some q =>
        obtain ⟨ys, is'⟩ := q
        simp only [hl, hq] at h
        cases h
        obtain ⟨a1, a2⟩ := tOf_rep hs hl h1
        obtain ⟨b1, b2⟩ := ttOf_rep hs hq h2
        exact ⟨fun x hx => (List.mem_append.1 hx).elim (a1 x) (b1 x), fun js hj => ⟨u, us', rfl, a2 js fun x hx => hj x (List.mem_append_left _ hx), b2 js fun x hx => hj x (List.mem_append_right _ hx)⟩⟩
  | [], _ :: _, _, _, _, h, _ => by simp [ttOf] at h
  | _ :: _, [], _, _, _, h, _ => by simp [ttOf] at h

def elemsOf (H : Heap) (e : EN) : List SV → Option (List (T e) × List Nat)
  | [] => some ([], [])
  | v :: vs => match tOf H e v, elemsOf H e vs with
    | some (x, i), some (xs, is) => some (x :: xs, i ++ is)
    | _, _ => none

theorem toElems_run {A : Type} {H : Heap} {e : EN} : ∀ {vs : List SV} {f : List (T e) → List Nat → OT A} {rs : List Nat} {r : A × List Nat},
    (toElems e vs f).run H rs = some r → ∃ xs is rs', elemsOf H e vs = some (xs, is) ∧ (f xs is).run H rs' = some r
  | [], _, _, _, h => ⟨[], [], _, rfl, h⟩
  | v :: vs, f, rs, r, h => by
    simp only [toElems] at h
    obtain ⟨x, i, rs', h1, h2⟩ := toT_run h
    obtain ⟨xs, is, rs'', h3, h4⟩ := toElems_run h2
    exact ⟨x :: xs, i ++ is, rs'', by simp [elemsOf, h1, h3], h4⟩

theorem elemsOf_rep (hs : HSat w0 β ro D objs w) {e : EN} : ∀ {vs : List SV} {xs : List (T e)} {is : List Nat} {us : List Value},
    elemsOf objs e vs = some (xs, is) → RepL β ro vs us → (∀ i ∈ is, (objs i).isSome) ∧ xs.length = vs.length ∧
      ∀ js, (∀ i ∈ is, i ∈ js) → ∀ (i : Nat) (x : T e) (u : Value), xs[i]? = some x → us[i]? = some u → RepT (ro.plus β w js) e x u
  | [], _, is, us, h, hr => by cases h; exact ⟨by simp, rfl, by simp⟩
  | v :: vs, xs, is, us, h, hr => by
    obtain ⟨u, us', rfl, h1, h2⟩ := hr.of_cons
    simp only [elemsOf] at h
    cases hl : tOf objs e v with
    | none => simp [hl] at h
    | some p =>
      obtain ⟨y, i⟩ := p
      cases hq : elemsOf objs e vs with
      | none => simp [hl, hq] at h
      | some q =>
        obtain ⟨ys, is'⟩ := q
        simp only [hl, hq] at h
        cases h
        obtain ⟨a1, a2⟩ := tOf_rep hs hl h1
        obtain ⟨b1, b2, b3⟩ := elemsOf_rep hs hq h2
        refine ⟨fun x hx => (List.mem_append.1 hx).elim (a1 x) (b1 x), by simp [b2], fun js hj n x z hx hz => ?_⟩
        cases n with
        | zero => simp at hx hz; subst hx hz; exact a2 js fun x hx => hj x (List.mem_append_left _ hx)
        | succ n => exact b3 js (fun x hx => hj x (List.mem_append_right _ hx)) n x z (by simpa using hx) (by simpa using hz)

end Go.Cat
